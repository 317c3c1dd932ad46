/- Steps of the proof of the theorem in the last file. -/
import Derived.Duo
import Derived.RowKit
import Derived.IntWalk
import Derived.Laws.Strings
import Derived.Laws.Cells
import Derived.Laws.BytesString
import Derived.Lib.Builder
import Derived.Laws.CopyRow
import Derived.Deep.AppendSrc
import Derived.Deep.Upon
import Derived.Lib.UnsafeStr
import Derived.Laws.AppendOwn
import Derived.Lib.AppendZeros
import Derived.Lib.ConvBytes
import Derived.Laws.RangeString
import Derived.RangeFuncLeaves
import Derived.RangeFuncSeq
import Derived.OwnWalkIn
import Derived.OrdersIn
import Derived.Sort.LoopGhostIn
import Derived.Scope
set_option linter.all false
set_option maxHeartbeats 4000000
open Option.some renaming inj -> aa
open Nat renaming le_of_ble_eq_true -> ae,eq_of_beq_eq_true -> ah,ble -> ak,beq -> ao,le_refl -> ar,lt_of_lt_of_le -> ay,succ -> aA,ble_eq_true_of_le -> aB,le_trans -> aM,lt_or_ge -> aV,zero_le -> aY,shiftRight -> aZ,zero_add -> bh,mod_eq_of_lt -> bj,beq_refl -> bz,shiftLeft -> bD,shiftRight_eq_div_pow -> bP,add_assoc -> bS,min -> ek,rec -> ey,lor -> eB,strongRecOn -> eG,mul_le_mul -> eL,land -> eM,add_zero -> eQ,le_div_iff_mul_le -> eU,add_mul -> eZ,mul_div_cancel -> ff,succ_mul -> fN,mul -> fO,div_one -> fQ
open Go.Result renaming andThen_ok -> af
open Go.Sem renaming run_bind -> ai,run_pure -> aw,run -> bI
open Go.Op renaming operands -> aj,equalIn -> aS,intCmp -> eu,intArith -> eH,stringOp -> fb,intBits -> fj,equal -> fK
open Bool renaming and_eq_true -> aq,false_eq_true -> au,or_eq_true -> bF,not_eq_true' -> ew
open List renaming rec -> ax,all_eq_true -> az,casesOn -> aC,length_append -> aF,all_cons -> bB,map_cons -> bQ,length_take -> bT,length_map -> eF,extract_eq_take_drop -> eN,range -> e9,mem_toArray -> fg,filter_cons -> fh,foldl_cons -> fm,mem_map -> fJ
open UInt8 renaming ofNat -> aD,toNat_ofNat' -> bm,toNat -> eC
open Array renaming replicate -> aE,length_toList -> ee,range -> eT,foldl_toList -> e8,size_append -> fe,ext' -> fP
open Go.Lib renaming bytesCells -> aG
open Go.Builtin renaming append_ -> aH,unsafeString_ -> aW,zeroCells -> bw,firstCells -> bH,unsafeSliceData_ -> bO,copy_ -> bZ,len_ -> eO,lenOf -> fk,min_ -> fu,min2 -> fy,max_ -> fz,max2 -> fA,cap_ -> fB
open Go.Region renaming wanted -> aK,binds -> aT,ready -> bU
open Go.Call renaming operands -> aQ
open Option renaming casesOn -> aR,map_some -> eD,map -> fI
open BitVec renaming ofInt -> aX,toNat_ofNat -> eY,ofNat -> fG
open Go.Instr renaming sliceAt -> bA,sureAddr -> bJ,fill -> bK,mapUpdate -> bW,indexAt -> ep,findKey -> er,slice -> eE,next -> eI,build -> eR,makeInterface -> eV,sliceBounds -> fc,sameBits -> fp,checkKey -> fq,sameNow -> fC,findNow -> fD,lookup -> fH,range -> fL,field -> fM
open ByteArray renaming ext -> bL,data_extract -> eK
open Int renaming ofNat -> bN
open Go.Fence renaming wide -> bV
open Go.IntWalk renaming i64_in -> bY
open Go.ByteArray renaming toList_eq -> eP
open Go.Deferred renaming ofValue -> eW
open ForInStep renaming yield -> eX
open Go renaming isAgg -> fa
open Go.Oper renaming semAt_plain -> fi
open Go.Code renaming rec -> fF
namespace Go.Ev
noncomputable def bd {α β:Type} (o:Option α) (k:α->Option β):Option β:=@Option.rec α (fun _=>Option β) none k o
noncomputable def gu {β:Type} (b:Bool) (k:Option β):Option β:=@Bool.rec (fun _=>Option β) none k b
noncomputable def cn {α:Type} (b:Bool) (x y:α):α:=@Bool.rec (fun _=>α) y x b
structure Bx(α:Type) where
 f:α
noncomputable section
inductive Po where
 |h
 |o (p:Po)
 |i (p:Po)
def Po.s(p:Po):Po:=Po.rec (.o .h) (fun p _=>.i p) (fun _ ih=>.o ih) p
def Po.n(p:Po):Nat:=Po.rec 1 (fun _ ih=>fO 2 ih) (fun _ ih=>aA (fO 2 ih)) p
def Po.eq(p:Po):Po->Bool:=Po.rec (fun q=>Po.casesOn q true (fun _=>false) (fun _=>false)) (fun _ ih q=>Po.casesOn q false (fun q=>ih q) (fun _=>false)) (fun _ ih q=>Po.casesOn q false (fun _=>false) (fun q=>ih q)) p
def poF:Nat->Nat->Po
 |0,_=>.h
 |f+1,t=>cn (ao t 0) .h (cn (ao (eM t 1) 0) (.o (poF f (aZ t 1))) (.i (poF f (aZ t 1))))
def po(t:Nat):Po:=poF t t
inductive Tr(α:Type) where
 |lf
 |nd (v:Option α) (l r:Tr α)
def Tr.v{α:Type}(t:Tr α):Option α:=Tr.casesOn t none (fun v _ _=>v)
def Tr.l{α:Type}(t:Tr α):Tr α:=Tr.casesOn t .lf (fun _ l _=>l)
def Tr.r{α:Type}(t:Tr α):Tr α:=Tr.casesOn t .lf (fun _ _ r=>r)
def Tr.get{α:Type}(p:Po):Tr α->Option α:=Po.rec Tr.v (fun _ ih t=>ih t.l) (fun _ ih t=>ih t.r) p
def Tr.put{α:Type}(x:Option α)(p:Po):Tr α->Tr α:=Po.rec (fun t=>.nd x t.l t.r) (fun _ ih t=>.nd t.v (ih t.l) t.r) (fun _ ih t=>.nd t.v t.l (ih t.r)) p
inductive A where
 |i (k:IntKind) (n:Int)
 |b (x:Bool)
 |s (l:List Nat)
 |k (v:Value)
 |p (n:Po) (off:Nat)
 |l (n:Po) (off len cap:Nat)
 |o (n:Po) (off len sz:Nat)
 |m (n:Po)
 |f (fn:FuncId) (cap:List A)
 |y (n:Po)
 |g (l:List A)
 |t (l:List A)
 |xi (T:TypeId) (a:A)
inductive O where
 |c (l:List A) (T:TypeId) (op:Bool)
 |r (l:List A) (T:TypeId)
 |m (es:List (A×A×Nat)) (clock:Nat)
 |si (l:List Nat) (pos:Nat)
 |mi (n:Po) (since:Nat) (seen:List Nat) (last:Nat)
 |lp (m:Tr A) (X:Nat->Bool) (ps:List Tmp) (as body:Code)
structure B where
 o:O
 lv:Nat
inductive Ex where
 |nm | ex (id:Nat) | rt
structure R where
 e:Ex
 a:A
 m:Tr A
 h:Tr B
 n:Po
def u0:A:=.t []
def QBT(v:Value):A:=match v with
 |.int k n=>.i k n
 |.bool b=>.b b
 |.string s=>.s (s.data.toList.map eC)
 |v=>.k v
def ofV(v:Value):A:=match v with
 |.agg a=>.g (a.toList.map QBT)
 |.tuple a=>.t (a.toList.map QBT)
 |v=>QBT v
def ixD(t:Nat)(loc:List Nat):Nat->Option Nat:=ax (fun _=>none) (fun d _ ih k=>cn (ao d t) (some k) (ih (aA k))) loc
abbrev Ac:=List A->Tr A->Option A
def yK(k:Nat):List A->Option A:=ey (fun l=>aC l none fun a _=>some a) (fun _ ih l=>aC l none fun _ r=>ih r) k
def oaD(X:Nat->Bool)(loc:List Nat)(x:Operand):Bx Ac:=match x with
 |.tmp t=>match ixD t loc 0 with
  |some i=>⟨fun st _=>yK i st⟩
  |none=>cn (X t) ⟨fun _ m=>Tr.get (po t) m⟩ ⟨fun _ _=>none⟩
 |.const v=>⟨fun _ _=>some (ofV v)⟩
 |.global g=>cn (ak g 60) ⟨fun _ _=>some (.p (po g) 0)⟩ ⟨fun _ _=>none⟩
 |.func f=>⟨fun _ _=>some (.f f [])⟩
structure Lc where
 X:Nat->Bool
 loc:List Nat
def ev(c:Lc)(x:Operand)(st:List A)(m:Tr A):Option A:=Bx.casesOn (oaD c.X c.loc x) fun f=>f st m
def Hk(c:Lc)(l:List Operand)(st:List A)(m:Tr A):Option (List A):=ax (some []) (fun x _ ih=>bd (ev c x st m) fun a=>bd ih fun l=>some (a::l)) l
def A.cells(a:A):List A:=match a with
 |.g E=>E
 |a=>[a]
def A.P(a:A):Option (Po×Nat):=match a with | .p q1 q2=>some (q1,q2) | _=>none
def A.N(a:A):Option Nat:=match a with | .i _ (.ofNat n)=>some n | _=>none
def A.I(a:A):Option (IntKind×Int):=match a with | .i q1 q2=>some (q1,q2) | _=>none
def A.B(a:A):Option Bool:=match a with | .b x=>some x | _=>none
def A.S(a:A):Option (List Nat):=match a with | .s x=>some x | _=>none
def A.G(a:A):Option (List A):=match a with | .g x=>some x | _=>none
def A.T(a:A):Option (List A):=match a with | .t x=>some x | _=>none
def A.M(a:A):Option Po:=match a with | .m x=>some x | _=>none
def O.C(o:O):Option (List A×TypeId×Bool):=match o with | .c l T op=>some (l,T,op) | _=>none
def O.D(o:O):Option (List A):=match o with | .c q1 _ _=>some q1 | .r q1 _=>some q1 | _=>none
def QAS(d:TypeDesc):Bool:=match d with | .struct _ | .array _ _=>true | _=>false
def isAgg(P:Program)(T:TypeId):Option Bool:=bd (P.underlying T) fun d=>some (QAS d)
def Rk(P:Program)(T:TypeId):Option Nat:=bd (P.info? T) fun i=>some i.size
def GZ(P:Program)(T:TypeId):Option TypeId:=bd (P.underlying T) fun d=>match d with
 |.slice e=>some e
 |_=>none
def WS(P:Program)(T:TypeId):Bool:=match P.underlying T with
 |some .string=>true
 |_=>false
def slS(P:Program)(T:TypeId):Option (TypeId×Nat):=bd (GZ P T) fun e=>bd (Rk P e) fun s=>some (e,s)
def Ju(P:Program)(T:TypeId):Option (List A):=bd (P.info? T) fun i=>bd i.zero fun v=>some (v.cells.toList.map QBT)
def Yt(P:Program)(T:TypeId)(f:Nat):Option (Nat×TypeId):=bd (P.underlying T) fun d=>match d with
 |.struct fs=>bd fs[f]? fun x=>some (x.offset,x.type)
 |_=>none
def QLc(n:Int):Int:=match n with
 |.ofNat m=>bif ak m 9223372036854775807 then .ofNat m else IntKind.i64.wrap (.ofNat m)
 |.negSucc m=>bif ak m 9223372036854775807 then .negSucc m else IntKind.i64.wrap (.negSucc m)
def wru(n:Int):Int:=match n with
 |.ofNat m=>.ofNat (Nat.mod m 18446744073709551616)
 |.negSucc m=>IntKind.u64.wrap (.negSucc m)
def wrp(k:IntKind):Bx (Int->Int):=match k with
 |.i64=>⟨QLc⟩
 |.u64=>⟨wru⟩
 |k=>⟨k.wrap⟩
def wr(k:IntKind)(n:Int):Int:=Bx.casesOn (wrp k) fun f=>f n
def lsI(a b:Int):Bool:=match a,b with
 |.ofNat a,.ofNat b=>ak (aA a) b
 |.negSucc a,.negSucc b=>ak (aA b) a
 |.negSucc _,.ofNat _=>true
 |.ofNat _,.negSucc _=>false
def eqI(a b:Int):Bool:=match a,b with
 |.ofNat a,.ofNat b=>ao a b
 |.negSucc a,.negSucc b=>ao a b
 |_,_=>false
def adI(a b:Int):Int:=match a,b with
 |.ofNat a,.ofNat b=>.ofNat (Nat.add a b)
 |a,b=>Int.add a b
def muI(a b:Int):Int:=match a,b with
 |.ofNat a,.ofNat b=>.ofNat (fO a b)
 |a,b=>Int.mul a b
def QLA(k:IntKind)(a b:Int):Int:=match k,a,b with
 |.u64,.ofNat x,.ofNat y=>.ofNat (Nat.mod (eM x y) 18446744073709551616)
 |k,a,b=>k.wrap (aX k.bits a &&& aX k.bits b).toNat
def QNI(a:Int)(n:Nat):Int:=match a with
 |.ofNat x=>.ofNat (Nat.div x (Nat.pow 2 n))
 |.negSucc x=>Int.fdiv (.negSucc x) (2^n)
def QMg(c:BinOp):Bx (IntKind->Int->Int->Option A):=match c with
 |.add=>⟨fun k a b=>some (.i k (wr k (adI a b)))⟩
 |.sub=>⟨fun k a b=>some (.i k (wr k (Int.sub a b)))⟩
 |.mul=>⟨fun k a b=>some (.i k (wr k (muI a b)))⟩
 |.quo=>⟨fun k a b=>bif eqI b 0 then none else some (.i k (wr k (Int.tdiv a b)))⟩
 |.rem=>⟨fun k a b=>bif eqI b 0 then none else some (.i k (Int.tmod a b))⟩
 |.and=>⟨fun k a b=>some (.i k (QLA k a b))⟩
 |.or=>⟨fun k a b=>some (.i k (k.wrap (aX k.bits a ||| aX k.bits b).toNat))⟩
 |.xor=>⟨fun k a b=>some (.i k (k.wrap (aX k.bits a ^^^ aX k.bits b).toNat))⟩
 |.andNot=>⟨fun _ _ _=>none⟩
 |.shl=>⟨fun k a b=>match b with | .ofNat b=>some (.i k (wr k (muI a (.ofNat (Nat.pow 2 (ek b k.bits)))))) | .negSucc _=>none⟩
 |.shr=>⟨fun k a b=>match b with | .ofNat b=>some (.i k (QNI a (ek b k.bits))) | .negSucc _=>none⟩
 |.eql=>⟨fun _ a b=>some (.b (eqI a b))⟩
 |.neq=>⟨fun _ a b=>some (.b (!eqI a b))⟩
 |.lss=>⟨fun _ a b=>some (.b (lsI a b))⟩
 |.leq=>⟨fun _ a b=>some (.b (!lsI b a))⟩
 |.gtr=>⟨fun _ a b=>some (.b (lsI b a))⟩
 |.geq=>⟨fun _ a b=>some (.b (!lsI a b))⟩
def eqL(l:List Nat):List Nat->Bool:=ax (fun q=>aC q true fun _ _=>false) (fun a _ ih q=>aC q false fun b r=>cn (ao a b) (ih r) false) l
def QOg(a:A):Bool:=match a with | .k (.slice none _ _)=>true | _=>false
def eqSl(x y:A):Option Bool:=match x,y with
 |.k (.slice none _ _),.k (.slice none _ _)=>some true
 |.k (.slice none _ _),.l _ _ _ _=>some false
 |.k (.slice none _ _),.o _ _ _ _=>some false
 |.l _ _ _ _,.k (.slice none _ _)=>some false
 |.o _ _ _ _,.k (.slice none _ _)=>some false
 |_,_=>none
def eqPt(x y:A):Option Bool:=match x,y with
 |.k (.pointer none),.k (.pointer none)=>some true
 |.k (.pointer none),.p _ _=>some false
 |.p _ _,.k (.pointer none)=>some false
 |.p n o,.p b a=>cn (Po.eq n b) (cn (ao o a) (some true) none) none
 |_,_=>none
def eqFn(x y:A):Option Bool:=match x,y with
 |.k .nilFunc,.k .nilFunc=>some true
 |.k .nilFunc,.f _ _=>some false
 |.f _ _,.k .nilFunc=>some false
 |_,_=>none
def eqIf(x y:A):Option Bool:=match x,y with
 |.k .nilIface,.k .nilIface=>some true
 |_,_=>none
def eqBl(x y:A):Option Bool:=match x,y with
 |.b a,.b b=>some (a==b)
 |_,_=>none
def uw(a b:IntKind):Bool:=match a,b with
 |.i8,.i8 | .i16,.i16 | .i32,.i32 | .i64,.i64 | .u8,.u8 | .u16,.u16 | .u32,.u32 | .u64,.u64=>true
 |_,_=>false
def eqIn(x y:A):Option Bool:=match x,y with
 |.i k a,.i c b=>cn (uw k c) (some (eqI a b)) none
 |_,_=>none
def eqSt(x y:A):Option Bool:=match x,y with
 |.s a,.s b=>some (eqL a b)
 |_,_=>none
def eq1(P:Program)(T:TypeId):Bx (A->A->Option Bool):=match P.underlying T with
 |some (.int _)=>⟨eqIn⟩
 |some .string=>⟨eqSt⟩
 |some .bool=>⟨eqBl⟩
 |_=>⟨fun _ _=>none⟩
def eqFs(P:Program)(fs:List Field)(xs ys:List A):Option Bool:=ax (some true) (fun f _ ih=>gu (f.name != "_") (bd (yK f.offset xs) fun x=>bd (yK f.offset ys) fun y=>Bx.casesOn (eq1 P f.type) fun e=>bd (e x y) fun t=>cn t ih (some false))) fs
def eqD(P:Program)(T:TypeId):Bx (A->A->Option Bool):=match P.underlying T with
 |some (.slice _)=>⟨eqSl⟩
 |some (.pointer e)=>cn (P.info? e).isSome ⟨eqPt⟩ ⟨fun _ _=>none⟩
 |some (.func _ _ _)=>⟨eqFn⟩
 |some (.interface _)=>⟨eqIf⟩
 |some (.struct fs)=>cn (!P.stoodInHeld T&&!P.eqGuardType P.depth T) ⟨fun x y=>bd x.G fun b=>bd y.G fun a=>eqFs P fs.toList b a⟩ ⟨fun _ _=>none⟩
 |_=>eq1 P T
def lim:Nat:=1000000
def QK6(c:BinOp)(a b:List Nat):Option A:=match c with
 |.add=>gu (ak (a.length+b.length) lim) (some (.s (a++b)))
 |.eql=>some (.b (eqL a b))
 |.neq=>some (.b (!eqL a b))
 |_=>none
def QK7(P:Program)(T:TypeId)(a:BinOp)(x y:A):Option A:=match a with
 |.eql=>Bx.casesOn (eqD P T) fun e=>bd (e x y) fun e=>some (.b e)
 |.neq=>Bx.casesOn (eqD P T) fun e=>bd (e x y) fun e=>some (.b (!e))
 |_=>none
def QL4(a:BinOp):Bool:=match a with | .shl | .shr=>true | _=>false
def bin(P:Program)(T:TypeId)(c:BinOp)(x y:A):Option A:=match x,y with
 |.i k a,.i d b=>cn (QL4 c||uw k d) (Bx.casesOn (QMg c) fun f=>f k a b) none
 |.s a,.s b=>QK6 c a b
 |x,y=>QK7 P T c x y
def uY(v:Value):Bool:=match v with | .agg _ | .tuple _=>false | _=>true
def A.ok(a:A):Bool:=match a with | .k q1=>uY q1 | _=>true
def A.one(a:A):Bool:=match a with | .g _ | .t _=>false | .k q1=>uY q1 | _=>true
def yJ(n:Nat)(k:Nat):List A->Option (List A):=ey (fun l=>bif ak n l.length then some (l.take n)else none) (fun _ ih l=>aC l none fun _ r=>ih r) k
def putAt(vs:List A)(k:Nat):List A->Option (List A):=ey (fun l=>bif ak vs.length l.length then some (vs++l.drop vs.length)else none) (fun _ ih l=>aC l none fun x r=>bd (ih r) fun q=>some (x::q)) k
def cellsOf(h:Tr B)(n:Po)(off len:Nat):Option (List A):=bd (h.get n) fun b=>bd b.o.D fun c=>yJ len off c
def QDG(P:Program)(T:TypeId):Bx (Tr B->Po->Nat->Option A):=match isAgg P T,Rk P T with
 |some true,some sz=>⟨fun h n off=>bd (cellsOf h n off sz) fun l=>some (.g l)⟩
 |some false,_=>⟨fun h n off=>bd (h.get n) fun b=>bd b.o.D fun c=>yK off c⟩
 |_,_=>⟨fun _ _ _=>none⟩
def ID(lv:Nat)(h:Tr B)(n:Po)(off:Nat)(vs:List A):Option (Tr B):=bd (h.get n) fun b=>gu (ak lv b.lv) (gu (vs.all A.one) (bd b.o.C fun c=>bd (putAt vs off c.1) fun l=>some (h.put (some ⟨.c l c.2.1 c.2.2,b.lv⟩) n)))
def rz(a:A)(h:Tr B)(n:Po):Option R:=some ⟨.nm,a,.lf,h,n⟩
def nw(o:O)(a:Po->A)(lv:Nat)(h:Tr B)(n:Po):Option R:=rz (a n) (h.put (some ⟨o,lv⟩) n) n.s
def lit(sz:Nat)(ps:List (Nat×A)):Nat->Option (List A):=ax (fun _=>some []) (fun p _ ih k=>gu (ao p.1 k) (gu (ao p.2.cells.length sz) (bd (ih (aA k)) fun l=>some (p.2.cells++l)))) ps
def rep(z:List A)(n:Nat):List A:=ey [] (fun _ ih=>z++ih) n
def parts(c:Lc)(l:List (Nat×Operand))(st:List A)(m:Tr A):Option (List (Nat×A)):=ax (some []) (fun p _ ih=>bd (ev c p.2 st m) fun v=>bd ih fun l=>some ((p.1,v)::l)) l
def fill(a:Nat->Option (Nat×Nat))(ps:List (Nat×A)):List A->Option (List A):=ax (fun b=>some b) (fun p _ ih b=>bd (a p.1) fun q=>gu (ao p.2.cells.length q.2) (bd (putAt p.2.cells q.1 b) fun b=>ih b)) ps
def Fg(l:List Nat):List A:=l.map fun c=>.i .u8 (.ofNat c)
def elems(sz:Nat)(h:Tr B)(x:A):Option (List A):=match x with
 |.k (.slice none 0 0)=>some []
 |.l n off len _=>cellsOf h n off (len*sz)
 |.o n off len _=>cellsOf h n off (len*sz)
 |_=>none
def QGH(x:A):Option Nat:=match x with
 |.k (.slice none l _)=>some l
 |.l _ _ len _=>some len
 |.o _ _ len _=>some len
 |_=>none
def uk(P:Program)(T:TypeId)(sz:Nat):Bx (Tr B->A->Option (Nat×List A)):=match P.underlying T with
 |some (.slice _)=>⟨fun h x=>bd (QGH x) fun k=>bd (elems sz h x) fun vs=>some (k,vs)⟩
 |some .string=>cn (ao sz 1) ⟨fun _ x=>bd x.S fun l=>some (l.length,Fg l)⟩ ⟨fun _ _=>none⟩
 |_=>⟨fun _ _=>none⟩
def byU(a:A):Option Nat:=match a with | .i .u8 (.ofNat c)=>some c | _=>none
def QCE(l:List A):Option (List Nat):=ax (some []) (fun a _ ih=>bd (byU a) fun c=>gu (ak c 255) (bd ih fun l=>some (c::l))) l
def vR(eq:A->A->Option Bool)(k:A)(a:List (A×A×Nat)):Nat->Option (Option (Nat×A)):=ax (fun _=>some none) (fun e _ ih i=>bd (eq k e.1) fun t=>cn t (some (some (i,e.2.1))) (ih (aA i))) a
def QD6(P:Program)(T:TypeId):Option (Bx (A->A->Option Bool)×TypeId):=bd (P.underlying T) fun d=>match d with
 |.map kt e=>(match P.underlying kt with
  |some (.int _)=>some (eq1 P kt,e)
  |some .string=>some (eq1 P kt,e)
  |_=>none)
 |_=>none
def QJu(v:A):Nat->List (A×A×Nat)->List (A×A×Nat)
 |_,[]=>[]
 |0,(k,_,b)::r=>(k,v,b)::r
 |i+1,e::r=>e::QJu v i r
def UG(c:Lc)(x:Option Operand)(st:List A)(m:Tr A):Option (Option Nat):=match x with
 |none=>some none
 |some x=>bd (ev c x st m) fun a=>bd a.N fun n=>some (some n)
def p9(lv:Nat)(sz e:Nat)(k:Nat)(vs:List A)(h:Tr B)(a:Po)(x:A):Option R:=match x with
 |.k (.slice none 0 0)=>bif ao k 0 then rz x h a else gu (ak k lim) (nw (.c vs e true) (.o · 0 k sz) lv h a)
 |.l n off len cap=>bif ak (len+k) cap then bd (ID lv h n (off+len*sz) vs) fun h=>rz (.l n off (len+k) cap) h a
   else bd (cellsOf h n off (len*sz)) fun us=>gu (ak (len+k) lim) (nw (.c (us++vs) e true) (.o · 0 (len+k) sz) lv h a)
 |.o n off len z=>bd (h.get n) fun b=>bd b.o.C fun c=>gu (ao z sz&&ao c.2.1 e)<|gu c.2.2 (
   bif ak (off+(len+k)*sz) c.1.length then bd (ID lv h n (off+len*sz) vs) fun h=>rz (.o n off (len+k) sz) h a
   else gu (ao off 0)<|gu (ao (off+len*sz) c.1.length) (gu (ak lv b.lv) (gu (ak (len+k) lim) (rz (.o a 0 (len+k) sz) ((h.put none n).put (some ⟨.c (c.1++vs) e true,lv⟩) a) a.s))))
 |_=>none
def append(P:Program)(T U:TypeId):Bx (Nat->Tr B->Po->A->A->Option R):=match slS P T with
 |none=>⟨fun _ _ _ _ _=>none⟩
 |some q=>match P.info? q.1 with
  |none=>⟨fun _ _ _ _ _=>none⟩
  |some i=>cn (ak i.bytes 1000&&(ao ((Ju P q.1).getD []).length q.2&&ak 1 q.2)) (Bx.casesOn (uk P U q.2) fun f=>⟨fun lv h a x y=>bd (f h y) fun s=>gu (ao s.2.length (s.1*q.2)) (gu (s.2.all A.one) (p9 lv q.2 q.1 s.1 s.2 h a x))⟩) ⟨fun _ _ _ _ _=>none⟩
def p8(P:Program)(T:TypeId):Bx (Nat->Tr B->Po->A->A->Option R):=match slS P T with
 |none=>⟨fun _ _ _ _ _=>none⟩
 |some q=>match P.info? q.1 with
  |none=>⟨fun _ _ _ _ _=>none⟩
  |some i=>cn (ak i.bytes 1000&&(ao ((Ju P q.1).getD []).length q.2&&ak 1 q.2)) ⟨fun lv h a x y=>match x,y with
   |.k (.slice none 0 0),.i .i64 (.ofNat k)=>gu (ak 1 k) (gu (ak k lim) (nw (.c (rep ((Ju P q.1).getD []) k) q.1 true) (.o · 0 k q.2) lv h a))
   |_,_=>none⟩ ⟨fun _ _ _ _ _=>none⟩
def QGJ(P:Program)(T:TypeId):Bool:=match P.underlying T with
 |some (.int _)=>true
 |_=>false
inductive Tk where
 |ca (lv:Nat) (f:FuncId) (args:List A) (h:Tr B) (n:Po)
 |rd (lv:Nat) (r:Po) (args:List A) (h:Tr B) (n:Po)
 |me (lv:Nat) (T:TypeId) (name:String) (args:List A) (h:Tr B) (n:Po)
abbrev Ih:=Tk->Option R
def u8B(P:Program)(T:TypeId):Bool:=match P.underlying T with
 |some (.int .u8)=>true
 |_=>false
def okN(x:A):Bool:=match x with
 |.p _ _=>true
 |.f _ _=>true
 |_=>false
def utf(l:List Nat)(a:Nat):Option (Nat×Nat):=bd l[a]? fun c=>gu (ak c 127) (some (c,1))
def num(n:Nat):A:=.i .i64 (.ofNat n)
def bi(P:Program)(b:Builtin)(T U:TypeId):Bx (Nat->Tr B->Po->List A->Option R):=match b with
 |.append=>Bx.casesOn (cn (QGJ P U) (p8 P T) (append P T U)) fun f=>⟨fun lv h n g=>match g with
  |[x,y]=>f lv h n x y
  |_=>none⟩
 |.copy=>(match slS P T with
  |none=>⟨fun _ _ _ _=>none⟩
  |some q=>Bx.casesOn (uk P U q.2) fun f=>⟨fun lv h n g=>match g with
   |[x,y]=>bd (f h y) fun s=>gu (ao s.2.length (s.1*q.2)) (match x with
    |.k (.slice none 0 _)=>rz (num 0) h n
    |.l d off a _=>bd (ID lv h d off (s.2.take (ek s.1 a*q.2))) fun h=>rz (num (ek s.1 a)) h n
    |.o d off a _=>bd (ID lv h d off (s.2.take (ek s.1 a*q.2))) fun h=>rz (num (ek s.1 a)) h n
    |_=>none)
   |_=>none⟩)
 |.unsafeSliceData=>⟨fun _ h n g=>match g with
  |[.l d off _ (_+1)]=>rz (.p d off) h n
  |[.o d off (_+1) _]=>rz (.p d off) h n
  |[.k (.slice none _ _)]=>rz (.k (.pointer none)) h n
  |_=>none⟩
 |.unsafeString=>(match P.underlying T with
  |some (.pointer e)=>cn (ao (P.cellsOf e) 1) ⟨fun lv h n g=>match g with
   |[.p _ _,.i _ (.ofNat 0)]=>rz (.s []) h n
   |[.k (.pointer none),.i _ (.ofNat 0)]=>rz (.s []) h n
   |[.p d off,.i .i64 (.ofNat k)]=>gu (ao off 0)<|gu (ak k lim)<|bd (h.get d) fun b=>gu (ak lv b.lv) (bd b.o.C fun c=>gu (ao c.2.1 e) (bd (yJ k 0 c.1) fun l=>bd (QCE l) fun j=>rz (.s j) (h.put none d) n))
   |_=>none⟩ ⟨fun _ _ _ _=>none⟩
  |_=>⟨fun _ _ _ _=>none⟩)
 |_=>⟨fun _ _ _ _=>none⟩
def ifG(a:A)(b:Bool):Bool:=match a with | .k .nilIface=>b | _=>true
def isC(x:Operand):Bool:=match x with | .const _=>true | _=>false
def QGd(P:Program)(src d:TypeId):Bx (Tr B->A->Option A):=match P.underlying src,P.underlying d with
 |some _,some (.int k)=>⟨fun _ x=>bd x.I fun q=>some (.i k (wr k q.2))⟩
 |some (.slice e),some .string=>(match P.underlying e with
  |some (.int .u8)=>⟨fun h x=>bd (QGH x) fun k=>bd (elems 1 h x) fun l=>gu (ao l.length k) (bd (QCE l) fun l=>some (.s l))⟩
  |_=>⟨fun _ _=>none⟩)
 |some .string,some .string=>⟨fun _ x=>bd x.S fun l=>some (.s l)⟩
 |some (.pointer t),some .unsafePointer=>⟨fun h x=>bd x.P fun q=>bd (h.get q.1) fun b=>bd b.o.C fun c=>gu (ak (aA q.2) c.1.length) (gu ((P.info? t).any fun j=>j.size != 0) (some x))⟩
 |some .unsafePointer,some (.pointer t)=>⟨fun h x=>bd x.P fun q=>bd (h.get q.1) fun b=>bd b.o.C fun c=>gu (!c.2.2) (gu (liesAt P P.depth c.2.1 (c.1.length/P.cellsOf c.2.1) q.2 t 1) (gu (P.info? t).isSome (some x)))⟩
 |_,_=>⟨fun _ _=>none⟩
def zc(eq:A->A->Option Bool)(lv:Nat)(h:Tr B)(n q:Po)(k v:A):Option R:=bd (h.get q) fun b=>gu (ak lv b.lv) (match b.o with
  |.m a c=>bd (vR eq k a 0) fun r=>rz u0 (h.put (some ⟨(match r with | some x=>.m (QJu v x.1 a) c | none=>.m (a++[(k,v,c)]) (c+1)),b.lv⟩) q) n
  |_=>none)
def QA1(P:Program)(T:TypeId)(a hv:Option Nat)(x:A):Option A:=match x with
 |.s l=>gu (WS P T) (gu (ak (a.getD 0) (hv.getD l.length)) (gu (ak (hv.getD l.length) l.length) (some (.s ((l.take (hv.getD l.length)).drop (a.getD 0))))))
 |.l q off len cap=>bd (slS P T) fun e=>gu (ak (a.getD 0) (hv.getD len)) (gu (ak (hv.getD len) cap)
  (some (.l q (cn (ao cap (a.getD 0)) off (off+a.getD 0*e.2)) (hv.getD len-a.getD 0) (cap-a.getD 0))))
 |.o q off len sz=>bd (slS P T) fun e=>gu (ao sz e.2) (gu (ak (a.getD 0) (hv.getD len)) (gu (ak (hv.getD len) len) (gu (ak 1 sz) (gu (ak (aA (a.getD 0)) len) (some (.o q (off+a.getD 0*sz) (hv.getD len-a.getD 0) sz))))))
 |.p q off=>bd (P.underlying T) fun d=>(match d with
  |.array len e=>bd (Rk P e) fun sz=>gu (ak (a.getD 0) (hv.getD len)) (gu (ak (hv.getD len) len) (some (.l q (cn (ao len (a.getD 0)) off (off+a.getD 0*sz)) (hv.getD len-a.getD 0) (len-a.getD 0))))
  |_=>none)
 |.k (.slice none 0 0)=>bd (slS P T) fun _=>gu (ao (a.getD 0) 0) (gu (ao (hv.getD 0) 0) (some x))
 |_=>none
def QKt(sz:Nat)(x:A)(i:Nat):Option A:=match x with
 |.l n off len _=>gu (ak (aA i) len) (some (.p n (off+i*sz)))
 |.o n off len s=>gu (ak (aA i) len) (gu (ao s sz) (some (.p n (off+i*sz))))
 |_=>none
def QNW(len sz:Nat)(x:A)(i:Nat):Option A:=bd x.P fun q=>gu (ak (aA i) len) (some (.p q.1 (q.2+i*sz)))
def QKu(P:Program)(T:TypeId):Bx (A->Nat->Option A):=match P.underlying T with
 |some (.slice e)=>(match Rk P e with
  |some sz=>⟨QKt sz⟩
  |none=>⟨fun _ _=>none⟩)
 |some (.array len e)=>(match Rk P e with
  |some sz=>⟨QNW len sz⟩
  |none=>⟨fun _ _=>none⟩)
 |_=>⟨fun _ _=>none⟩
def gS(P:Program)(T:TypeId):Nat->Option (Nat×Nat):=fun i=>bd (P.underlying T) fun d=>match d with
 |.struct _=>bd (Yt P T i) fun q=>bd (Rk P q.2) fun n=>some (q.1,n)
 |.array _ e=>bd (Rk P e) fun sz=>some (i*sz,sz)
 |_=>none
def QGv(P:Program)(T:TypeId):Bool:=match P.underlying T with
 |some (.struct fs)=>fs.toList.all fun f=>(P.info? f.type).isSome
 |some (.array _ e)=>(Rk P e).isSome
 |_=>false
def QDA(b:List (A×A×Nat))(a:List Nat):List (A×A×Nat):=b.filter fun e=>!a.contains e.2.2
def TF(b:Builtin)(d:List A):Option A:=match b,d with
 |.min,[.i k a,.i _ b]=>some (.i k (cn (lsI b a) b a))
 |.max,[.i k a,.i _ b]=>some (.i k (cn (lsI a b) b a))
 |.min,[.i k a,.i _ b,.i _ c]=>some (.i k (cn (lsI c (cn (lsI b a) b a)) c (cn (lsI b a) b a)))
 |.max,[.i k a,.i _ b,.i _ c]=>some (.i k (cn (lsI (cn (lsI a b) b a) c) c (cn (lsI a b) b a)))
 |.cap,[.l _ _ _ c]=>some (num c)
 |.cap,[.k (.slice none _ c)]=>some (num c)
 |_,_=>none
def QL6(P:Program)(T:TypeId):Bool:=match P.underlying T with
 |some (.interface _)=>false
 |some _=>true
 |none=>false
def kj(P:Program)(c:Lc)(o:Op):Option (Bx Ac):=match o with
 |.move x=>some (oaD c.X c.loc x)
 |.assign x=>some (oaD c.X c.loc x)
 |.pick x a b=>some ⟨fun st m=>bd (ev c x st m) fun x=>bd x.B fun t=>bif t then ev c a st m else ev c b st m⟩
 |.build T ps=>some ⟨fun st m=>gu (QGv P T)<|bd (Ju P T) fun z=>bd (parts c ps.toList st m) fun l=>gu (l.all fun p=>p.2.ok) (bd (fill (gS P T) l z) fun k=>some (.g k))⟩
 |.nilCheck x=>some ⟨fun st m=>bd (ev c x st m) fun v=>gu (okN v) (some v)⟩
 |.binOp h T x y _=>some ⟨fun st m=>bd (ev c x st m) fun a=>bd (ev c y st m) fun b=>gu (ifG a (isC x||isC y)) (bin P T h a b)⟩
 |.unOp .not _ x=>some ⟨fun st m=>bd (ev c x st m) fun a=>bd a.B fun t=>some (.b (!t))⟩
 |.unOp .neg _ x=>some ⟨fun st m=>bd (ev c x st m) fun a=>bd a.I fun q=>some (.i q.1 (wr q.1 (Int.neg q.2)))⟩
 |.makeFunc (.func fn) a b=>some ⟨fun st m=>gu a.toList.isEmpty (bd (Hk c b.toList st m) fun y=>some (.f fn y))⟩
 |.slice T x lo j none=>some ⟨fun st m=>bd (ev c x st m) fun a=>bd (UG c lo st m) fun w=>bd (UG c j st m) fun hv=>QA1 P T w hv a⟩
 |.fieldAddr T x f=>some ⟨fun st m=>bd (ev c x st m) fun a=>bd a.P fun q=>bd (Yt P T f) fun p=>bd (Rk P p.2) fun s=>gu (ak 1 s) (some (.p q.1 (Nat.add q.2 p.1)))⟩
 |.field T x f=>some ⟨fun st m=>bd (ev c x st m) fun a=>bd a.G fun l=>bd (Yt P T f) fun p=>bd (isAgg P p.2) fun g=>bif g then bd (Rk P p.2) fun sz=>bd (yJ sz p.1 l) fun l=>some (.g l)else yK p.1 l⟩
 |.indexAddr T x y=>some ⟨fun st m=>bd (ev c x st m) fun a=>bd (ev c y st m) fun b=>bd b.N fun i=>Bx.casesOn (QKu P T) fun f=>f a i⟩
 |.index T x y=>some ⟨fun st m=>gu (WS P T)<|bd (ev c x st m) fun a=>bd a.S fun l=>bd (ev c y st m) fun b=>bd b.N fun i=>bd l[i]? fun c=>some (.i .u8 (.ofNat c))⟩
 |.extract x i=>some ⟨fun st m=>bd (ev c x st m) fun a=>bd a.T fun l=>yK i l⟩
 |.makeInterface T x=>some ⟨fun st m=>gu (QL6 P T) (bd (ev c x st m) fun a=>some (.xi T a))⟩
 |.call ⟨.builtin .min,args,_⟩=>some ⟨fun st m=>bd (Hk c args.toList st m) fun d=>TF .min d⟩
 |.call ⟨.builtin .max,args,_⟩=>some ⟨fun st m=>bd (Hk c args.toList st m) fun d=>TF .max d⟩
 |.call ⟨.builtin .cap,args,e⟩=>(match bd e[0]? (GZ P)with
  |some _=>some ⟨fun st m=>bd (Hk c args.toList st m) fun d=>TF .cap d⟩
  |_=>none)
 |_=>none
def zeroV(P:Program)(T:TypeId):Option A:=bd (P.info? T) fun i=>bd i.zero fun v=>some (ofV v)
def QJO(P:Program)(T:TypeId)(r:Option (Nat×A)):Option A:=match r with
 |some x=>some x.2
 |none=>zeroV P T
def QIS(P:Program)(a:Array TypeId):Bx (Tr B->A->Option A):=match bd a[0]? P.underlying with
 |some .string=>⟨fun _ x=>bd x.S fun l=>some (num l.length)⟩
 |some (.slice _)=>⟨fun _ x=>bd (QGH x) fun k=>some (num k)⟩
 |some (.map _ _)=>⟨fun h x=>bd x.M fun q=>bd (h.get q) fun b=>(match b.o with | .m es _=>some (num es.length) | _=>none)⟩
 |_=>⟨fun _ _=>none⟩
abbrev Me:=List A->Tr A->Tr B->Option A
def gv(P:Program)(c:Lc)(o:Op):Option (Bx Me):=match o with
 |.load T x=>some ⟨fun st m h=>bd (ev c x st m) fun a=>bd a.P fun q=>Bx.casesOn (QDG P T) fun f=>f h q.1 q.2⟩
 |.lookup T x y ok=>(match QD6 P T with
  |none=>none
  |some q=>Bx.casesOn q.1 fun eq=>some ⟨fun st m h=>bd (ev c x st m) fun a=>bd a.M fun n=>bd (ev c y st m) fun k=>bd (h.get n) fun b=>(match b.o with
   |.m j _=>bd (vR eq k j 0) fun r=>bd (QJO P q.2 r) fun v=>some (cn ok (.t [v,.b r.isSome]) v)
   |_=>none)⟩)
 |.entry x=>some ⟨fun st m h=>bd (ev c x st m) fun a=>bd a.P fun q=>gu (ao q.2 0)<|bd (h.get q.1) fun b=>match b.o with
  |.mi p _ (e::_) i=>bd (h.get p) fun d=>(match d.o with
   |.m j g=>gu (ao g i) (bd (j.find? fun x=>ao x.2.2 e) fun x=>some (.t [x.1,x.2.1]))
   |_=>none)
  |_=>none⟩
 |.call ⟨.builtin .len,args,z⟩=>Bx.casesOn (QIS P z) fun f=>some ⟨fun st m h=>bd (Hk c args.toList st m) fun w=>match w with
  |[x]=>f h x
  |_=>none⟩
 |.convert s d x=>(match P.underlying s,P.underlying d with
  |some .string,some (.slice _)=>none
  |_,_=>some ⟨fun st m h=>bd (ev c x st m) fun a=>Bx.casesOn (QGd P s d) fun f=>f h a⟩)
 |_=>none
def neD(P:Program)(c:Lc)(o:Op):Option (Bx (List A->Tr A->Option (O×(Po->A)))):=match o with
 |.alloc T=>some ⟨fun _ _=>bd (Ju P T) fun z=>some (.c z T false,(.p · 0))⟩
 |.box T x=>some ⟨fun st m=>bd (ev c x st m) fun v=>gu v.ok (some (.c v.cells T false,(.p · 0)))⟩
 |.buildSlice T k ps=>some ⟨fun st m=>bd (slS P T) fun q=>gu (Ju P q.1).isSome<|bd (parts c ps.toList st m) fun l=>gu (l.all fun p=>p.2.ok)<|bd (lit q.2 l 0) fun b=>gu (ao b.length (k*q.2)) (gu (ak (k*q.2) 16777216) (some (.c b q.1 false,(.l · 0 k k))))⟩
 |.makeMap _ none=>some ⟨fun _ _=>some (.m [] 0,.m)⟩
 |.makeSlice T l n=>some ⟨fun st m=>bd (ev c l st m) fun a=>bd a.N fun k=>bd (ev c n st m) fun a=>bd a.N fun n=>bd (slS P T) fun q=>bd (P.info? q.1) fun i=>gu (ak i.bytes 1000)<|bd (Ju P q.1) fun z=>gu (ao z.length q.2)<|gu (ak k n) (gu (ak n 16777216) (some (.c (rep z n) q.1 false,(.l · 0 k n))))⟩
 |_=>none
abbrev Fo:=Ih->Nat->List A->Tr A->Tr B->Po->Option R
def biT(P:Program)(b:Builtin)(a:Array TypeId):Bx (Nat->Tr B->Po->List A->Option R):=match a.toList with
 |[T,U]=>bi P b T U
 |[T]=>(match b with | .unsafeSliceData=>bi P b T T | _=>⟨fun _ _ _ _=>none⟩)
 |_=>⟨fun _ _ _ _=>none⟩
def loD(P:Program)(c:Lc)(o:Op):Bx Fo:=match o with
 |.store T x y=>⟨fun _ lv st m h n=>bd (ev c x st m) fun a=>bd a.P fun q=>bd (ev c y st m) fun v=>bd (Rk P T) fun sz=>gu (ao v.cells.length sz) (bd (ID lv h q.1 q.2 v.cells) fun h=>rz u0 h n)⟩
 |.mapUpdate T x y z=>(match QD6 P T with
  |none=>⟨fun _ _ _ _ _ _=>none⟩
  |some w=>Bx.casesOn w.1 fun eq=>⟨fun _ lv st m h n=>bd (ev c x st m) fun a=>bd a.M fun q=>bd (ev c y st m) fun k=>bd (ev c z st m) fun v=>zc eq lv h n q k v⟩)
 |.insert T x y z=>(match QD6 P T with
  |none=>⟨fun _ _ _ _ _ _=>none⟩
  |some w=>Bx.casesOn w.1 fun eq=>⟨fun _ lv st m h n=>bd (ev c x st m) fun a=>bd a.M fun q=>bd (ev c y st m) fun k=>bd (ev c z st m) fun v=>zc eq lv h n q k v⟩)
 |.range T x=>(match P.underlying T with
  |some .string=>⟨fun _ lv st m h n=>bd (ev c x st m) fun a=>bd a.S fun l=>nw (.si l 0) (.p · 0) lv h n⟩
  |some (.map _ _)=>⟨fun _ lv st m h n=>bd (ev c x st m) fun a=>bd a.M fun q=>bd (h.get q) fun b=>(match b.o with | .m _ c=>nw (.mi q c [] c) (.p · 0) lv h n | _=>none)⟩
  |_=>⟨fun _ _ _ _ _ _=>none⟩)
 |.next x K=>⟨fun _ lv st m h n=>bd (ev c x st m) fun a=>bd a.P fun q=>gu (ao q.2 0)<|bd (h.get q.1) fun b=>gu (ak lv b.lv) (match b.o with
  |.si l F=>gu K<|bif ak (aA F) l.length then bd (utf l F) fun c=>rz (.t [.b true,num F,.i .i32 (.ofNat c.1)]) (h.put (some ⟨.si l (F+c.2),b.lv⟩) q.1) n else rz (.t [.b false]) h n
  |.mi p j E U=>gu (!K)<|bd (h.get p) fun d=>(match d.o with
   |.m X H=>gu (E.isEmpty||(X.isEmpty||!(X.all fun e=>ak U e.2.2))) (match QDA X E with
    |[]=>rz (.t [.b false]) h n
    |[e]=>gu (ak (aA e.2.2) j)<|rz (.t [.b true,e.1,e.2.1]) (h.put (some ⟨.mi p j (e.2.2::E) H,b.lv⟩) q.1) n
    |_=>none)
   |_=>none)
  |_=>none)⟩
 |.call ⟨.builtin b,args,Y⟩=>⟨fun _ lv st m h n=>bd (Hk c args.toList st m) fun J=>Bx.casesOn (biT P b Y) fun f=>f lv h n J⟩
 |.call ⟨.value f,args,_⟩=>⟨fun ih lv st m h n=>bd (ev c f st m) fun a=>bd (Hk c args.toList st m) fun J=>match a with
  |.f g c=>ih (.ca lv g (J++c) h n)
  |.y r=>ih (.rd lv r J h n)
  |_=>none⟩
 |.call ⟨.invoke x L,args,_⟩=>⟨fun ih lv st m h n=>bd (ev c x st m) fun a=>bd (Hk c args.toList st m) fun J=>match a with
  |.xi T v=>ih (.me lv T L (v::J) h n)
  |_=>none⟩
 |.convert s d x=>⟨fun _ lv st m h n=>bd (ev c x st m) fun a=>bd a.S fun l=>bd (GZ P d) fun e=>gu (WS P s) (cn (u8B P e) (nw (.r (Fg l) e) (.o · 0 l.length 1) lv h n) none)⟩
 |_=>⟨fun _ _ _ _ _ _=>none⟩
def push(d:Option Tmp)(a:A)(st:List A):List A:=match d with | some _=>a::st | none=>st
def vL(d:Option Tmp)(loc:List Nat):List Nat:=match d with | some d=>d::loc | none=>loc
def vN(P:Program)(c:Lc)(o:Op):Bx Fo:=match kj P c o with
 |some g=>Bx.casesOn g fun g=>⟨fun _ _ st m h n=>bd (g st m) fun a=>rz a h n⟩
 |none=>match gv P c o with
  |some g=>Bx.casesOn g fun g=>⟨fun _ _ st m h n=>bd (g st m h) fun a=>rz a h n⟩
  |none=>match neD P c o with
   |some g=>Bx.casesOn g fun g=>⟨fun _ lv st m h n=>bd (g st m) fun q=>nw q.1 q.2 lv h n⟩
   |none=>loD P c o
def vQ(b:List Oper)(o:Oper):Option (Option Nat×Bool):=match o.guard with
 |none=>none
 |some (g,a)=>some (bd b[g]? (·.dst),a)
def wanted(c:Lc)(g:Option Nat×Bool)(st:List A)(m:Tr A):Option Bool:=bd g.1 fun d=>bd (ev c (.tmp d) st m) fun a=>match a with
 |.b t=>some (t==g.2)
 |.t []=>some false
 |_=>none
def flD(X:Nat->Bool)(loc:List Nat):Bx (List A->Tr A->Tr A):=ax ⟨fun _ m=>m⟩ (fun t _ k=>Bx.casesOn k fun k=>cn (X t) ⟨fun st m=>aC st m fun a st=>(k st m).put (some a) (po t)⟩ ⟨fun st m=>aC st m fun _ st=>k st m⟩) loc
def Md(P:Program)(X:Nat->Bool)(b:List Oper)(l:List Oper):List Nat->Bx Fo:=ax (fun loc=>Bx.casesOn (flD X loc) fun f=>⟨fun _ _ st m h n=>some ⟨.nm,u0,f st m,h,n⟩⟩)
 (fun o _ k loc=>Bx.casesOn (k (vL o.dst loc)) fun k=>match vQ b o with
  |none=>(match kj P ⟨X,loc⟩ o.op with
   |some g=>Bx.casesOn g fun g=>(match o.dst with
    |some _=>⟨fun ih lv st m h n=>bd (g st m) fun a=>k ih lv (a::st) m h n⟩
    |none=>⟨fun ih lv st m h n=>bd (g st m) fun _=>k ih lv st m h n⟩)
   |none=>Bx.casesOn (vN P ⟨X,loc⟩ o.op) fun f=>⟨fun ih lv st m h n=>bd (f ih lv st m h n) fun r=>k ih lv (push o.dst r.a st) m r.h r.n⟩)
  |some g=>Bx.casesOn (vN P ⟨X,loc⟩ o.op) fun f=>⟨fun ih lv st m h n=>bd (wanted ⟨X,loc⟩ g st m) fun t=>cn t (bd (f ih lv st m h n) fun r=>k ih lv (push o.dst r.a st) m r.h r.n) (k ih lv (push o.dst u0 st) m h n)⟩) l
def bit(m t:Nat):Bool:=ao (eM (aZ m t) 1) 1
def dmA(a:List Nat)(b:List Edge):Nat:=ax 0 (fun e _ ih=>cn (aT .any e) (eB ih (eB (bD 1 e.on) (a.getD e.on 0))) ih) b
def uR(l:List Oper):List Nat->List Nat:=ax (fun a=>a) (fun o _ ih a=>ih (a++[dmA a o.after.toList])) l
def V9(P:Program)(o:Op):Bool:=(kj P ⟨fun _=>false,[]⟩ o).isNone&&(gv P ⟨fun _=>false,[]⟩ o).isNone&&(neD P ⟨fun _=>false,[]⟩ o).isNone
structure Pn where
 j:Nat
 n:Po
 b:B
structure Vw where
 h:Tr B
 pd:List Pn
def act(a:Nat)(v:Vw):Tr B:=ax v.h (fun x _ ih=>cn (bit a x.j) (ih.put (some x.b) x.n) ih) v.pd
def QEW(v:Vw):Tr B:=ax v.h (fun x _ ih=>ih.put (some x.b) x.n) v.pd
def rst(a:Nat)(b:List Pn):List Pn:=ax [] (fun x _ ih=>cn (bit a x.j) ih (x::ih)) b
structure Ms where
 j:Nat
 g:Tr B->Option A
 mask:Nat
 a:A
structure Hv where
 j:Nat
 v:Vw
structure Z where
 st:List A
 v:Vw
 n:Po
 hs:List Hv
 ms:List Ms
def QE9(a b:Value):Bool:=match a,b with
 |.pointer none,.pointer none=>true
 |.slice none a b,.slice none c d=>ao a c&&ao b d
 |.nilFunc,.nilFunc=>true
 |.nilIface,.nilIface=>true
 |.map none,.map none=>true
 |_,_=>false
mutual
def same:A->A->Bool
 |.i k n,.i q c=>uw k q&&eqI n c
 |.b x,.b y=>x==y
 |.s x,.s y=>eqL x y
 |.k x,.k y=>QE9 x y
 |.p n o,.p c d=>Po.eq n c&&ao o d
 |.l n o a b,.l c d h j=>Po.eq n c&&(ao o d&&(ao a h&&ao b j))
 |.o n o a b,.o c d h j=>Po.eq n c&&(ao o d&&(ao a h&&ao b j))
 |.m n,.m c=>Po.eq n c
 |.f g l,.f w e=>ao g w&&Ul l e
 |.g l,.g e=>Ul l e
 |.t l,.t e=>Ul l e
 |.xi T a,.xi T' h=>ao T T'&&same a h
 |_,_=>false
def Ul:List A->List A->Bool
 |[],[]=>true
 |a::l,b::r=>same a b&&Ul l r
 |_,_=>false
end
def ckE(g:Tr B->Option A)(b:Nat)(a:A)(c:List Hv):Bool:=ax true (fun x _ ih=>cn (bit b x.j) true (aR (g (act b x.v)) false fun d=>cn (same d a) ih false)) c
def nmP(n q:Po):Bool:=ak (aA q.n) n.n
mutual
def nmB(n:Po):A->Bool
 |.p q _=>nmP n q
 |.l q _ _ _=>nmP n q
 |.o q _ _ _=>nmP n q
 |.m q=>nmP n q
 |.y q=>nmP n q
 |.f _ l=>QDu n l
 |.g l=>QDu n l
 |.t l=>QDu n l
 |.xi _ a=>nmB n a
 |_=>true
def QDu(n:Po):List A->Bool
 |[]=>true
 |a::l=>nmB n a&&QDu n l
end
def ckM(c:Nat)(v:Vw)(b:List Ms):Bool:=ax true (fun x _ ih=>cn (bit c x.j) ih (aR (x.g (act x.mask v)) false fun a=>cn (same a x.a) ih false)) b
abbrev Dz:=Ih->Nat->Tr A->Z->Option Z
def QCp(P:Program)(c:Lc)(o:Op)(i b:Nat)(lt:Bool):Bx Dz:=match kj P c o with
 |some g=>Bx.casesOn g fun g=>⟨fun _ _ m z=>bd (g z.st m) fun a=>some ⟨a::z.st,z.v,z.n,z.hs,z.ms⟩⟩
 |none=>match gv P c o with
  |some g=>Bx.casesOn g fun g=>⟨fun _ _ m z=>bd (g z.st m (act b z.v)) fun a=>gu (nmB z.n a)<|gu (ckE (g z.st m) b a z.hs) (some ⟨a::z.st,z.v,z.n,z.hs,cn lt (⟨i,g z.st m,b,a⟩::z.ms) z.ms⟩)⟩
  |none=>match neD P c o with
   |some g=>Bx.casesOn g fun g=>⟨fun _ lv m z=>bd (g z.st m) fun q=>some ⟨q.2 z.n::z.st,⟨z.v.h,⟨i,z.n,⟨q.1,lv⟩⟩::z.v.pd⟩,z.n.s,z.hs,z.ms⟩⟩
   |none=>Bx.casesOn (loD P c o) fun f=>⟨fun ih lv m z=>bd (f ih lv z.st m (act b z.v) z.n) fun r=>gu (ak z.n.n r.n.n)<|gu (ckM b ⟨r.h,rst b z.v.pd⟩ z.ms) (some ⟨r.a::z.st,⟨r.h,rst b z.v.pd⟩,r.n,⟨i,z.v⟩::z.hs,z.ms⟩)⟩
def stepG(P:Program)(X:Nat->Bool)(loc:List Nat)(a:List Oper)(o:Oper)(i b:Nat)(lt:Bool):Bx Dz:=match vQ a o with
 |none=>QCp P ⟨X,loc⟩ o.op i b lt
 |some g=>Bx.casesOn (QCp P ⟨X,loc⟩ o.op i b lt) fun f=>⟨fun ih lv m z=>bd (wanted ⟨X,loc⟩ g z.st m) fun t=>cn t (f ih lv m z) (some ⟨u0::z.st,z.v,z.n,(cn (V9 P o.op) (⟨i,z.v⟩::z.hs) z.hs),z.ms⟩)⟩
def yp(o:Oper):Nat:=match o.dst with | some d=>d | none=>1000000
def QEV(a:List Bool)(D:List Nat)(i:Nat):Bool:=(e9 a.length).any fun j=>ak (aA i) j&&(a.getD j false&&!bit (D.getD j 0) i)
def QDP(P:Program)(X:Nat->Bool)(a:List Oper)(D:List Nat)(b:List Bool)(l:List Oper):Nat->List Nat->Bx Dz:=ax (fun _ _=>⟨fun _ _ _ z=>some z⟩)
 (fun o _ k i loc=>Bx.casesOn (stepG P X loc a o i (D.getD i 0) (QEV b D i)) fun f=>Bx.casesOn (k (aA i) (yp o::loc)) fun k=>⟨fun ih lv m z=>bd (f ih lv m z) fun z=>k ih lv m z⟩) l
def slotsOf(a:List Oper)(o:Oper):List Nat:=(o.op.operands.toList.filterMap fun x=>match x with | .tmp t=>some t | _=>none)++(match vQ a o with | some (some d,_)=>[d] | _=>[])
def okR(P:Program)(a:List Oper)(D:List Nat)(b:List Bool):Bool :=
 (e9 a.length).all fun i=>aR a[i]? false fun o=>(o.after.toList.all fun e=>!(aT .any e)||ak (aA e.on) i)&&(((slotsOf a o).all fun t=>ak (aA t) 1000000) &&
  (e9 a.length).all fun j=>aR a[j]? false fun q =>
   ao i j||(aR q.dst true fun t=>!(match o.dst with | some d=>ao d t | none=>false)&&(!((slotsOf a o).any (ao t))||(bit (D.getD i 0) j||bit (D.getD j 0) i)))&&(!(ak (aA i) j&&(b.getD i false&&b.getD j false))||bit (D.getD j 0) i))
def QDQ(P:Program)(X:Nat->Bool)(a:List Oper):Bx (Ih->Nat->Tr A->Tr B->Po->Option R) :=
 let D:=uR a [];let ls:=a.map fun o=>V9 P o.op
 cn (P.follows .mixedOrders&&(!X 1000000&&okR P a D ls)) (Bx.casesOn (QDP P X a D ls a 0 []) fun f=>Bx.casesOn (flD X (a.map yp).reverse) fun b=>⟨fun ih lv m h n=>bd (f ih lv m ⟨[],⟨h,[]⟩,n,[],[]⟩) fun z=>some ⟨.nm,u0,b z.st m,QEW z.v,z.n⟩⟩) ⟨fun _ _ _ _ _=>none⟩
def sub(o:O):List A:=match o with
 |.c l _ _=>l
 |.r l _=>l
 |.m a _=>a.flatMap fun e=>[e.1,e.2.1]
 |_=>[]
def PL(lv:Nat)(c:Tr B)(f:Nat):List A->Tr B->Tr B:=ey (fun _ h=>h) (fun _ ih l h=>aC l h fun a r =>
 let nm (n:Po):Tr B:=aR (h.get n) (aR (c.get n) (ih r h) fun b=>cn (ak (aA lv) b.lv) (ih (sub b.o++r) (h.put (some ⟨b.o,lv⟩) n)) (ih r h)) fun _=>ih r h
 match a with
 |.p n _=>nm n
 |.l n _ _ _=>nm n
 |.o n _ _ _=>nm n
 |.m n=>nm n
 |.f _ x=>ih (x++r) h
 |.g l=>ih (l++r) h
 |.t l=>ih (l++r) h
 |.xi _ a=>ih (a::r) h
 |_=>ih r h) f
def IL(P:Program)(rs:List ResultVar)(m:Tr A)(h:Tr B):Option (List A):=ax (some []) (fun r _ ih=>bd (match r with
 |.tmp t=>m.get (po t)
 |.cell t T=>bd (m.get (po t)) fun a=>bd a.P fun q=>Bx.casesOn (QDG P T) fun f=>f h q.1 q.2) fun v=>bd ih fun l=>some (v::l)) rs
def one(l:List A):A:=match l with | [v]=>v | vs=>.t vs
def p6(b:List A):Nat->Tr A->Tr A:=ax (fun _ m=>m) (fun a _ ih k m=>ih (aA k) (m.put (some a) (po k))) b
def QH0(ps:List Tmp):List A->Tr A->Option (Tr A):=ax (fun l m=>aC l (some m) fun _ _=>none) (fun p _ ih l m=>aC l none fun a r=>ih r (m.put (some a) (po p))) ps
abbrev Co:=Ih->Nat->Tr A->Tr B->Po->Option R
def orT(loc:Nat)(x:Operand)(m:Nat):Nat:=match x with
 |.tmp t=>cn (bit loc t) m (eB m (bD 1 t))
 |_=>m
def orO(loc:Nat)(x:Option Nat)(m:Nat):Nat:=match x with
 |some t=>orT loc (.tmp t) m
 |none=>m
def orL(loc:Nat)(l:List Operand)(m:Nat):Nat:=ax m (fun x _ ih=>orT loc x ih) l
def outs(l:List Oper)(a:List Oper):Nat->Nat->Nat:=ax (fun _ m=>m) (fun o _ ih loc m=>ih (match o.dst with | some d=>eB loc (bD 1 d) | none=>loc) (match vQ a o with | some g=>orO loc g.1 (orL loc o.op.operands.toList m) | none=>orL loc o.op.operands.toList m)) l
def orN(l:List Nat)(m:Nat):Nat:=ax m (fun t _ ih=>eB ih (bD 1 t)) l
def need(c:Code):Nat->Nat:=fF (motive:=fun _=>Nat->Nat) (fun m=>m) (fun _ d _=>outs d.toList d.toList 0) (fun _ _ a b m=>b (a m)) (fun x _ _ a b m=>orT 0 x (b (a m))) (fun _ _ a=>a) (fun _ a=>a) (fun f ps _ _ a b m=>orT 0 f (orN ps.toList (b (a m)))) (fun _ m=>m) (fun _ a=>a) (fun _ m=>m) (fun _ m=>m) (fun m=>m) (fun _ m=>m) c
def QGB(a:Tr A->Tr B->Po->Option R)(k:Nat):Tr A->Tr B->Po->Option R:=ey (fun _ _ _=>none) (fun _ ih m h n=>bd (a m h n) fun r=>Ex.casesOn r.e (ih r.m r.h r.n) (fun _=>some r) (some r)) k
def hasB(P:Program)(g:FuncId):Bool:=match P.funcs[g]? with
 |some fn=>fn.body.isSome
 |none=>false
def yz(P:Program)(p:Bool)(X:Nat->Bool)(c:Code):Bx Co:=fF (motive:=fun _=>Bx Co)
 ⟨fun _ _ m h n=>some ⟨.nm,u0,m,h,n⟩⟩
 (fun _ d q=>cn q (QDQ P X d.toList) (Bx.casesOn (Md P X d.toList d.toList []) fun f=>⟨fun ih lv m h n=>f ih lv [] m h n⟩))
 (fun _ _ a b=>Bx.casesOn a fun a=>Bx.casesOn b fun b=>⟨fun ih lv m h n=>bd (a ih lv m h n) fun r=>Ex.casesOn r.e (b ih lv r.m r.h r.n) (fun _=>some r) (some r)⟩)
 (fun x _ _ a b=>Bx.casesOn a fun a=>Bx.casesOn b fun b=>⟨fun ih lv m h n=>bd (ev ⟨X,[]⟩ x [] m) fun v=>bd v.B fun t=>cn t (a ih lv m h n) (b ih lv m h n)⟩)
 (fun k _ a=>Bx.casesOn a fun a=>⟨fun ih lv m h n=>bd (a ih lv m h n) fun r=>Ex.casesOn r.e (some r) (fun i=>bif ao i k then some ⟨.nm,u0,r.m,r.h,r.n⟩else some r) (some r)⟩)
 (fun _ a=>Bx.casesOn a fun a=>⟨fun ih lv m h n=>QGB (a ih lv) lim m h n⟩)
 (fun f ps w j _ _=>⟨fun ih lv m h n=>gu p<|bd (ev ⟨X,[]⟩ f [] m) fun v=>match v with
  |.f g c=>gu (hasB P g)<|bd (ih (.ca lv g (.y n::c) (h.put (some ⟨.lp m X ps.toList w j,lv⟩) n) n.s)) fun r=>bd (r.h.get n) fun b=>gu (ak lv b.lv) (match b.o with
   |.lp _ _ _ _ _=>some ⟨.nm,u0,m,r.h.put none n,r.n⟩
   |_=>none)
  |_=>none⟩)
 (fun k=>⟨fun _ _ m h n=>some ⟨.ex k,u0,m,h,n⟩⟩)
 (fun _ a=>Bx.casesOn a fun a=>⟨fun ih lv m h n=>gu p (a ih lv m h n)⟩)
 (fun _=>⟨fun _ _ m h n=>some ⟨.nm,u0,m,h,n⟩⟩)
 (fun _=>⟨fun _ _ _ _ _=>none⟩)
 ⟨fun _ _ m h n=>some ⟨.rt,u0,m,h,n⟩⟩
 (fun _=>⟨fun _ _ _ _ _=>none⟩) c
def dOk(N:Nat)(d:Option Tmp):Bool:=match d with | some d=>ak (aA d) N | none=>true
def LP(N:Nat)(c:Code):Bool:=fF (motive:=fun _=>Bool) true (fun _ d _=>d.toList.all fun o=>dOk N o.dst) (fun _ _ a b=>a&&b) (fun _ _ _ a b=>a&&b) (fun _ _ a=>a) (fun _ a=>a) (fun _ ps _ _ a b=>(ps.toList.all fun p=>dOk N (some p))&&(a&&b)) (fun _=>true) (fun _ a=>a) (fun _=>true) (fun _=>true) true (fun _=>true) c
def rsL(l:List ResultVar):List Nat:=l.map fun r=>match r with | .tmp t=>t | .cell t _=>t
abbrev kg:=FuncId->Option (Bx (List A->Tr B->Po->Nat->Option R))
def fbD(P:Program)(imp:FuncId->Bool)(f:FuncId):Bx (Ih->Nat->List A->Tr B->Po->Option R):=match P.funcs[f]? with
 |none=>⟨fun _ _ _ _ _=>none⟩
 |some fn=>match fn.body with
  |none=>⟨fun _ _ _ _ _=>none⟩
  |some c=>bif imp f then⟨fun ih lv args h n=>Bx.casesOn (yz P true (bit (need c (orN (rsL fn.results.toList) 0))) c) fun k=>bd (k ih lv (p6 args 0 .lf) h n) fun r=>Ex.casesOn r.e (bd (IL P fn.results.toList r.m r.h) fun vs=>rz (one vs) r.h r.n) (fun _=>none) (bd (IL P fn.results.toList r.m r.h) fun vs=>rz (one vs) r.h r.n)⟩
   else⟨fun ih lv args h n=>Bx.casesOn (yz P true (bit (need c (orN (rsL fn.results.toList) 0))) c) fun k=>bd (k ih (aA lv) (p6 args 0 .lf) h n) fun r=>Ex.casesOn r.e (bd (IL P fn.results.toList r.m r.h) fun vs=>rz (one vs) (PL lv r.h 100000 vs h) r.n) (fun _=>none) (bd (IL P fn.results.toList r.m r.h) fun vs=>rz (one vs) (PL lv r.h 100000 vs h) r.n)⟩
def fnD(P:Program)(imp:FuncId->Bool)(a:kg)(f:FuncId):Bx (Ih->Nat->List A->Tr B->Po->Option R):=match a f with
 |some o=>Bx.casesOn o fun o=>Bx.casesOn (fbD P imp f) fun k=>⟨fun ih lv args h n=>aR (o args h n lv) (k ih lv args h n) some⟩
 |none=>fbD P imp f
def go(P:Program)(imp:FuncId->Bool)(a:kg)(met:TypeId->String->Option FuncId)(k:Nat):Ih:=ey (fun _=>none) (fun _ ih t=>Tk.casesOn (motive:=fun _=>Option R) t
 (fun lv f args h n=>Bx.casesOn (fnD P imp a f) fun k=>k ih lv args h n)
 (fun lv l args h n=>bd (h.get l) fun b=>match b.o with
  |.lp m X ps j d=>bd (QH0 ps args m) fun m=>Bx.casesOn (yz P false X j) fun f=>bd (f ih lv m h n) fun r=>Ex.casesOn r.e (bd (r.h.get l) fun i=>(match i.o with
   |.lp _ _ _ _ _=>Bx.casesOn (yz P false X d) fun f=>bd (f ih lv r.m (r.h.put none l) r.n) fun g=>Ex.casesOn g.e (rz (.b true) (g.h.put (some i) l) g.n) (fun _=>none) none
   |_=>none)) (fun _=>none) none
  |_=>none)
 (fun lv T c args h n=>bd (met T c) fun f=>Bx.casesOn (fnD P imp a f) fun k=>k ih lv args h n)) k
end
end Go.Ev
namespace Go.Ev
theorem Qc{α β:Type}{o:Option α}{k:α->Option β}{b:β}(h:bd o k=some b):∃a,o=some a/\k a=some b:=by
 cases o with
 |none=>cases h
 |some a=>exact⟨a,rfl,h⟩
theorem Q9{β:Type}{c:Bool}{k:Option β}{b:β}(h:gu c k=some b):c=true/\k=some b:=by
 cases c with
 |false=>cases h
 |true=>trivial
theorem ZX{α:Type}(b:Bool)(x y:α):cn b x y=if b then x else y:=by cases b<;>rfl
theorem Bx.co{α β:Type}(b:Bx α)(k:α->β):(Bx.casesOn b k:β)=k b.f:=by rfl
theorem Po.n_o(p:Po):(Po.o p).n=2*p.n:=rfl
theorem Po.n_i(p:Po):(Po.i p).n=2*p.n+1:=rfl
theorem Po.n_s(p:Po):p.s.n=p.n+1:=by
 induction p with
 |h=>rfl
 |o p ih=>rfl
 |i p ih=>show(Po.o p.s).n=_;grind[n_o,n_i]
theorem Po.eq_eq:∀ {p q:Po},Po.eq p q=true->p=q:=by
 intro p
 induction p with
 |h=>intro q h;cases q with
  |h=>rfl
  |o q=>cases h
  |i q=>cases h
 |o p ih=>intro q h;cases q with
  |h=>cases h
  |o q=>rw[ih h]
  |i q=>cases h
 |i p ih=>intro q h;cases q with
  |h=>cases h
  |o q=>cases h
  |i q=>rw[ih h]
noncomputable def Po.u (p:Po):Nat:=Po.rec 0 (fun _ ih=>2*ih) (fun _ ih=>2*ih+1) p
theorem QEs:∀(f t:Nat),t<=f->(poF f t).u=t
 |0,t,h=>by cases (show t=0 by omega);rfl
 |f+1,t,h=>by
  unfold poF;rw[ZX,ZX];have d:aZ t 1=t/2:=bP t 1;have c:eM t 1=t%2:=by simp
  rw[d,c];split
  ·rename_i b;have:=ah b;subst this;rfl
  ·have ih:=QEs f (t/2) (by omega);split
   ·rename_i a;have:=ah a;show 2*(poF f _).u=t;omega
   ·have:t%2≠0:=by simp_all
    show 2*(poF f _).u+1=t;omega
theorem QBK{s t:Nat}(h:po s=po t):s=t:=by
 have:=congrArg Po.u h;unfold po at this<;>simp_all[QEs,ar]
section
variable{α:Type}
theorem Tr.pF(p:Po):Tr.get p (.lf:Tr α)=none:=by
 induction p with
 |h=>rfl
 |o p ih=>exact ih
 |i p ih=>exact ih
theorem Tr.yI(x:Option α):∀(p:Po) (t:Tr α),Tr.get p (Tr.put x p t)=x:=by
 intro p
 induction p with
 |h=>intro t;rfl
 |o p ih=>intro t;exact ih t.l
 |i p ih=>intro t;exact ih t.r
theorem Tr.Iu(x:Option α):∀ {p q:Po} (t:Tr α),q≠p->Tr.get q (Tr.put x p t)=Tr.get q t:=by
 intro p
 induction p with
 |h=>intro q t h;cases q with
  |h=>trivial
  |o q=>rfl
  |i q=>rfl
 |o p ih=>intro q t h;cases q with
  |h=>rfl
  |o q=>exact ih t.l (fun e=>h (by rw[e]))
  |i q=>rfl
 |i p ih=>intro q t h;cases q with
  |h=>rfl
  |i q=>exact ih t.r (fun e=>h (by rw[e]))
  |o q=>rfl
theorem Tr.K4(x:Option α){p q:Po}{t:Tr α}{a:α}(h:Tr.get q (Tr.put x p t)=some a):(q=p/\x=some a)\/(q≠p/\Tr.get q t=some a):=by
 by_cases e:q=p
 ·subst e;rw[yI]at h<;>simp_all
 grind[Iu]
end
end Go.Ev
namespace Go.Ev
structure Pl where
 ZH:Nat
 EW:Nat
 size:Nat
abbrev Be:=Po->Option Pl
def Hr(l:List Nat):ByteArray:=⟨(l.map aD).toArray⟩
def Uz(l:List Nat):Bool:=l.all fun c=>ak c 255
def Pl.at(p:Pl)(off:Nat):Addr:=⟨p.ZH,p.EW+off,none⟩
mutual
def V(β:Be):A->Option Value
 |.i k n=>some (.int k n)
 |.b x=>some (.bool x)
 |.s l=>if Uz l then some (.string (Hr l))else none
 |.k v=>some v
 |.p n off=>(β n).map fun p=>.pointer (some (p.at off))
 |.l n off len cap=>(β n).map fun p=>.slice (some (p.at off)) len cap
 |.o n off len sz=>(β n).bind fun p=>if len<=(p.size-(p.EW+off))/sz then some (.slice (some (p.at off)) len ((p.size-(p.EW+off))/sz))else none
 |.m n=>(β n).map fun p=>.map (some p.ZH)
 |.f fn l=>(Vs β l).map fun l=>.func (.func fn) #[] l.toArray
 |.y n=>(β n).map fun p=>.func (.yield p.ZH) #[] #[]
 |.g l=>(Vs β l).map fun l=>.agg l.toArray
 |.t l=>(Vs β l).map fun l=>.tuple l.toArray
 |.xi T a=>(V β a).map fun v=>.iface T v
def Vs(β:Be):List A->Option (List Value)
 |[]=>some []
 |a::l=>match V β a,Vs β l with
  |some v,some r=>some (v::r)
  |_,_=>none
end
def Be.le(β β':Be):Prop:=∀q p,β q=some p->β' q=some p
theorem Be.le_refl(β:Be):Be.le β β:=fun _ _ h=>h
theorem map_le{β β':Be}(h:Be.le β β'){n:Po}{f:Pl->Value}{v:Value}(e:(β n).map f=some v):(β' n).map f=some v:=by
 cases a:β n with
 |none=>simp_all
 |some p=>rw[h n p a];simp_all
theorem QIp{β β':Be}(h:Be.le β β'){n:Po}{f:Pl->Option Value}{v:Value}(e:(β n).bind f=some v):(β' n).bind f=some v:=by
 cases a:β n with
 |none=>simp_all
 |some p=>rw[h n p a];simp_all
theorem XY{β:Be}{a:A}{l:List A}{vs:List Value}(h:Vs β (a::l)=some vs):∃v r,V β a=some v/\Vs β l=some r/\vs=v::r:=by
 unfold Vs at h
 grind
theorem Vr{β:Be}{a:A}{l:List A}{v:Value}{r:List Value}(h:V β a=some v)(k:Vs β l=some r):Vs β (a::l)=some (v::r):=by
 grind[Vs]
mutual
theorem qP{β β':Be}(h:Be.le β β'):∀(a:A) (v:Value),V β a=some v->V β' a=some v
 |.i _ _,_,e=>e
 |.b _,_,e=>e
 |.s _,_,e=>e
 |.k _,_,e=>e
 |.p _ _,_,e=>map_le h e
 |.l _ _ _ _,_,e=>map_le h e
 |.o _ _ _ _,_,e=>QIp h e
 |.m _,_,e=>map_le h e
 |.y _,_,e=>map_le h e
 |.f _ l,_,e=>by
  unfold V at e ⊢;obtain⟨r,d,c⟩:=Option.map_eq_some_iff.1 e;rw[kL h l r d];exact congrArg some c
 |.g l,_,e=>by
  unfold V at e ⊢;obtain⟨r,d,c⟩:=Option.map_eq_some_iff.1 e;rw[kL h l r d];exact congrArg some c
 |.t l,_,e=>by
  unfold V at e ⊢;obtain⟨r,d,c⟩:=Option.map_eq_some_iff.1 e;rw[kL h l r d];exact congrArg some c
 |.xi T a,_,e=>by
  unfold V at e ⊢;obtain⟨r,d,c⟩:=Option.map_eq_some_iff.1 e;rw[qP h a r d];exact congrArg some c
theorem kL{β β':Be}(h:Be.le β β'):∀(l:List A) (vs:List Value),Vs β l=some vs->Vs β' l=some vs
 |[],_,e=>e
 |a::l,vs,e=>by
  obtain⟨v,r,c,b,rfl⟩:=XY e;exact Vr (qP h a v c) (kL h l r b)
end
theorem Vj{β:Be}:∀ {l:List A} {vs:List Value},Vs β l=some vs->vs.length=l.length
 |[],vs,h=>by cases h;rfl
 |a::l,vs,h=>by obtain⟨v,r,_,b,rfl⟩:=XY h;simp[Vj b]
theorem Tv{β:Be}:∀ {l l':List A} {vs vs':List Value},Vs β l=some vs->Vs β l'=some vs'->Vs β (l++l')=some (vs++vs')
 |[],_,vs,_,h,k=>by cases h;exact k
 |a::l,_,vs,_,h,k=>by obtain⟨v,r,c,b,rfl⟩:=XY h;simp_all[Vr,Tv]
theorem LF{β:Be}:∀ {l:List A} {vs:List Value} {i:Nat} {a:A},Vs β l=some vs->l[i]?=some a->∃v,vs[i]?=some v/\V β a=some v
 |[],vs,i,v,h,k=>by cases k
 |a::l,vs,i,b,h,k=>by
  obtain⟨u,r,d,c,rfl⟩:=XY h;cases i with
  |zero=>simp_all
  |succ i=>have:=LF c (by trivial);trivial
theorem Fh{β:Be}:∀(n:Nat) {l:List A} {vs:List Value},Vs β l=some vs->Vs β (l.drop n)=some (vs.drop n)
 |0,_,_,h=>h
 |n+1,[],vs,h=>by cases h;rfl
 |n+1,a::l,vs,h=>by obtain⟨u,r,c,b,rfl⟩:=XY h;exact Fh n b
theorem P3{β:Be}:∀(n:Nat) {l:List A} {vs:List Value},Vs β l=some vs->Vs β (l.take n)=some (vs.take n)
 |0,l,vs,h=>by rfl
 |n+1,[],vs,h=>by cases h;rfl
 |n+1,a::l,vs,h=>by obtain⟨u,r,c,b,rfl⟩:=XY h;simp_all[Vr,P3]
def Sl(X:Nat->Bool)(β:Be)(m:Tr A)(b:Array Value):Prop:=∀t a,X t=true->m.get (po t)=some a->∃v,V β a=some v/\b[t]?=some v
theorem Sl.le{X:Nat->Bool}{β β':Be}{m:Tr A}{E:Array Value}(h:Sl X β m E)(k:Be.le β β'):Sl X β' m E:=fun t a H F=>by
 obtain⟨v,K,J⟩:=h t a H F;grind[qP]
def En(β:Be):List (A×A×Nat)->List MapEntry->Prop
 |[],[]=>True
 |(k,v,b)::r,e::a=>V β k=some e.key/\V β v=some e.val/\e.born=b/\En β r a
 |_,_=>False
theorem En.le{β β':Be}(h:Be.le β β'):∀ {l:List _} {es:List _},En β l es->En β' l es
 |[],[],_=>trivial
 |(_,_,_)::_,_::_,⟨H,F,h3,E⟩=>⟨qP h _ _ H,qP h _ _ F,h3,En.le h E⟩
def Oo(β:Be)(p:Pl)(o:Obj):O->Prop
 |.c l T h=>∃c vs,o = .cells c T (0,0)/\c.size=p.size/\Vs β l=some vs/\(∀i v,vs[i]?=some v->c[p.EW+i]?=some v)/\p.EW+l.length<=p.size/\(h=false->p.EW=0/\l.length=p.size)/\p.EW=0
 |.r l _=>∃c T fr vs,o = .cells c T fr/\c.size=p.size/\Vs β l=some vs/\(∀i v,vs[i]?=some v->c[p.EW+i]?=some v)/\p.EW+l.length<=p.size
 |.m j k=>∃ents,o = .map ents k/\En β j ents.toList
 |.si l f=>Uz l=true/\o = .stringIter (Hr l) f/\p.EW=0
 |.mi q b d e=>p.EW=0/\∃pq,β q=some pq/\o = .mapIter (some pq.ZH) b d.reverse.toArray e
 |.lp m X ps g a=>∃r:Loop,o = .loop r/\r.state = .ready/\r.pending=none/\r.params=ps.toArray/\r.assign=g/\r.body=a/\Sl X β m r.tmps/\LP r.tmps.size (.rangeFunc (.const (.bool true)) r.params g a)=true
theorem Oo.le{β β':Be}(h:Be.le β β'){p:Pl}{o:Obj}:∀ {x:O},Oo β p o x->Oo β' p o x
 |.c _ _ _,⟨c,vs,F,E,h3,H⟩=>⟨c,vs,F,E,kL h _ _ h3,H⟩
 |.r _ _,⟨c,T,fr,vs,F,E,h3,H⟩=>⟨c,T,fr,vs,F,E,kL h _ _ h3,H⟩
 |.m _ _,⟨e,F,E⟩=>⟨e,F,E.le h⟩
 |.si _ _,k=>k
 |.mi _ _ _ _,⟨X,J,F,E⟩=>⟨X,J,h _ _ F,E⟩
 |.lp _ _ _ _ _,⟨r,F,E,h3,H,U,L,h7,K⟩=>⟨r,F,E,h3,H,U,L,h7.le h,K⟩
def Ob(β:Be)(h:Tr B)(w:World):Prop:=∀q b,h.get q=some b->∃p o,β q=some p/\w.heap[p.ZH]?=some o/\Oo β p o b.o
structure Ok(β:Be)(h:Tr B)(n:Po)(w:World):Prop where
 ob:∀q b,h.get q=some b->∃p o,β q=some p/\w.heap[p.ZH]?=some o/\Oo β p o b.o
 inj:∀q q' b b' p p',h.get q=some b->h.get q'=some b'->β q=some p->β q'=some p'->p.ZH=p'.ZH->q=q'
 top:∀q:Po,n.n<=q.n->β q=none
theorem Ok.lt{β:Be}{h:Tr B}{n:Po}{w:World}(k:Ok β h n w){q:Po}{b:B}(E:h.get q=some b){p:Pl}(H:β q=some p):p.ZH<w.heap.size:=by
 obtain⟨F,o,K,J,_⟩:=k.ob q b E
 grind
theorem Ok.nm{β:Be}{h:Tr B}{n:Po}{w:World}(k:Ok β h n w){q:Po}{b:B}(F:h.get q=some b):q.n<n.n:=by
 obtain⟨p,o,E,_⟩:=k.ob q b F;rcases aV q.n n.n with g | g
 ·exact g
 ·rw[k.top q g]at E;cases E
structure Mv(lv:Nat)(β:Be)(h:Tr B)(n:Po)(w:World)(β':Be)(h':Tr B)(n':Po)(w':World):Prop where
 le:n.n<=n'.n
 old:∀q:Po,q.n<n.n->β' q=β q
 ok:Ok β' h' n' w'
 os:w'.os=w.os
 tape:w'.tape=w.tape
 out:w'.output=w.output
 drawn:True
 size:w.heap.size<=w'.heap.size
 fr:∀b,b<w.heap.size->(∀q c p,h.get q=some c->lv<=c.lv->β q=some p->p.ZH≠b)->w'.heap[b]?=w.heap[b]?
 src:∀q c p,h'.get q=some c->β' q=some p->p.ZH<w.heap.size->∃q0 c0 p0,h.get q0=some c0/\β q0=some p0/\p0.ZH=p.ZH/\(lv<=c.lv->lv<=c0.lv)
 dC:∀K,lv<=K->(∀q c,h.get q=some c->c.lv<=K)->∀q c,h'.get q=some c->c.lv<=K
theorem Mv.be{lv:Nat}{β β':Be}{h F:Tr B}{n E:Po}{w w':World}(k:Mv lv β h n w β' F E w')(hk:Ok β h n w):Be.le β β':=fun q p e=>by
 rcases aV q.n n.n with g | g
 ·rw[k.old q g];exact e
 ·rw[hk.top q g]at e;cases e
theorem Mv.refl{lv:Nat}{β:Be}{h:Tr B}{n:Po}{w:World}(k:Ok β h n w):Mv lv β h n w β h n w :=
 ⟨ar _,fun _ _=>rfl,k,rfl,rfl,rfl,trivial,ar _,fun _ _ _=>rfl,fun q c p F E _=>⟨q,c,p,F,E,rfl,id⟩,fun _ _ h=>h⟩
theorem Mv.trans{lv:Nat}{β1 β2 β3:Be}{h1 h2 h3:Tr B}{n1 X U:Po}{L J H:World}(a:Mv lv β1 h1 n1 L β2 h2 X J)(b:Mv lv β2 h2 X J β3 h3 U H):Mv lv β1 h1 n1 L β3 h3 U H where
 le:=aM a.le b.le
 old:=fun q E=>(b.old q (ay E a.le)).trans (a.old q E)
 ok:=b.ok
 os:=b.os.trans a.os
 tape:=b.tape.trans a.tape
 out:=b.out.trans a.out
 drawn:=trivial
 size:=aM a.size b.size
 fr:=fun x hx hh=>by
  rw[b.fr x (ay hx a.size) ?_,a.fr x hx hh];intro q c p E hc F e;obtain⟨q0,c0,p0,g1,g2,g3,g4⟩:=a.src q c p E F (by omega)
  grind
 src:=fun q c p E F hb=>by
  obtain⟨q1,c1,p1,g1,g2,g3,g4⟩:=b.src q c p E F (ay hb a.size);obtain⟨q0,c0,p0,k1,k2,k3,k4⟩:=a.src q1 c1 p1 g1 g2 (by omega)
  grind
 dC:=fun K Y h=>b.dC K Y (a.dC K Y h)
end Go.Ev
namespace Go.Ev
open Go.RowKit
theorem QG3(β:Be)(v:Value):V β (QBT v)=some v:=by
 unfold QBT;split
 ·rfl
 ·rfl
 ·rename_i s;have d:Uz (s.data.toList.map eC)=true:=by
   unfold Uz;rw[az];intro c a;obtain⟨b,_,rfl⟩:=List.mem_map.1 a;have:=b.toNat_lt
   grind[aB]
  unfold V;unfold Hr;have:(aD∘eC)=id:=by funext c;simp
  simp_all
 ·rfl
theorem jf(β:Be):∀l:List Value,Vs β (l.map QBT)=some l
 |[]=>rfl
 |v::l=>Vr (QG3 β v) (jf β l)
theorem QG4(β:Be)(v:Value):V β (ofV v)=some v:=by
 unfold ofV;split
 ·unfold V;rw[jf];rfl
 ·unfold V;rw[jf];rfl
 simp[QG3]
theorem A.jC{a:A}{q:Po×Nat}(h:a.P=some q):a = .p q.1 q.2:=by
 cases a<;>simp[A.P]at h
 grind
theorem A.QHE{a:A}{n:Nat}(h:a.N=some n):∃k,a = .i k (.ofNat n):=by
 cases a<;>simp[A.N]at h;rename_i k m;cases m<;>simp_all
theorem A.QMw{a:A}{q:IntKind×Int}(h:a.I=some q):a = .i q.1 q.2:=by
 cases a<;>simp[A.I]at h
 grind
theorem A.QI4{a:A}{t:Bool}(h:a.B=some t):a = .b t:=by
 cases a<;>simp[A.B]at h;rw[h]
theorem A.QCR{a:A}{l:List Nat}(h:a.S=some l):a = .s l:=by
 cases a<;>simp[A.S]at h;rw[h]
theorem A.QLN{a:A}{l:List A}(h:a.G=some l):a = .g l:=by
 cases a<;>simp[A.G]at h;rw[h]
theorem A.QNq{a:A}{l:List A}(h:a.T=some l):a = .t l:=by
 cases a<;>simp[A.T]at h;rw[h]
theorem A.QIz{a:A}{n:Po}(h:a.M=some n):a = .m n:=by
 cases a<;>simp[A.M]at h;rw[h]
theorem O.QHT{o:O}{c:List A×TypeId×Bool}(h:o.C=some c):o = .c c.1 c.2.1 c.2.2:=by
 cases o<;>simp[O.C]at h
 grind
theorem O.QN1{o:O}{l:List A}(h:o.D=some l):(∃T op,o = .c l T op)\/∃T,o = .r l T:=by
 cases o<;>simp[O.D]at h
 all_goals simp_all
theorem vB{β:Be}{n:Po}{off:Nat}{v:Value}(h:V β (.p n off)=some v):∃p,β n=some p/\v = .pointer (some (p.at off)):=by
 obtain⟨p,b,a⟩:=Option.map_eq_some_iff.1 h;simp_all
theorem V_l{β:Be}{n:Po}{off len cap:Nat}{v:Value}(h:V β (.l n off len cap)=some v):∃p,β n=some p/\v = .slice (some (p.at off)) len cap:=by
 obtain⟨p,b,a⟩:=Option.map_eq_some_iff.1 h;simp_all
theorem V_o{β:Be}{n:Po}{off len sz:Nat}{v:Value}(h:V β (.o n off len sz)=some v):∃p,β n=some p/\len<=(p.size-(p.EW+off))/sz/\v = .slice (some (p.at off)) len ((p.size-(p.EW+off))/sz):=by
 obtain⟨p,b,a⟩:=Option.bind_eq_some_iff.1 h;simp_all
theorem kM{β:Be}{n:Po}{off len sz:Nat}{p:Pl}(h:β n=some p)(k:len<=(p.size-(p.EW+off))/sz):V β (.o n off len sz)=some (.slice (some (p.at off)) len ((p.size-(p.EW+off))/sz)):=by
 unfold V;simp_all
theorem V_m{β:Be}{n:Po}{v:Value}(h:V β (.m n)=some v):∃p,β n=some p/\v = .map (some p.ZH):=by
 obtain⟨p,b,a⟩:=Option.map_eq_some_iff.1 h;simp_all
theorem V_y{β:Be}{n:Po}{v:Value}(h:V β (.y n)=some v):∃p,β n=some p/\v = .func (.yield p.ZH) #[] #[]:=by
 obtain⟨p,b,a⟩:=Option.map_eq_some_iff.1 h;simp_all
theorem V_g{β:Be}{l:List A}{v:Value}(h:V β (.g l)=some v):∃vs,Vs β l=some vs/\v = .agg vs.toArray:=by
 obtain⟨p,b,a⟩:=Option.map_eq_some_iff.1 h;simp_all
theorem V_t{β:Be}{l:List A}{v:Value}(h:V β (.t l)=some v):∃vs,Vs β l=some vs/\v = .tuple vs.toArray:=by
 obtain⟨p,b,a⟩:=Option.map_eq_some_iff.1 h;simp_all
theorem V_f{β:Be}{f:FuncId}{l:List A}{v:Value}(h:V β (.f f l)=some v):∃vs,Vs β l=some vs/\v = .func (.func f) #[] vs.toArray:=by
 obtain⟨p,b,a⟩:=Option.map_eq_some_iff.1 h;simp_all
theorem uS{β:Be}{l:List Nat}{v:Value}(h:V β (.s l)=some v):Uz l=true/\v = .string (Hr l):=by
 unfold V at h;simp_all
theorem Fw{β:Be}{k:IntKind}{n:Int}{v:Value}(h:V β (.i k n)=some v):v = .int k n:=(aa h).symm
theorem V_b{β:Be}{t:Bool}{v:Value}(h:V β (.b t)=some v):v = .bool t:=(aa h).symm
theorem uE{β:Be}{u v:Value}(h:V β (.k u)=some v):v=u:=(aa h).symm
theorem QH5{a b:List Nat}(h:Uz a=true)(k:Uz b=true):Uz (a++b)=true:=by
 unfold Uz at *;simp_all
theorem QF0{a:List Nat}(n:Nat)(h:Uz a=true):Uz (a.take n)=true:=by
 grind[Uz,az,List.mem_of_mem_take]
theorem QF1{a:List Nat}(n:Nat)(h:Uz a=true):Uz (a.drop n)=true:=by
 grind[Uz,az,List.mem_of_mem_drop]
theorem vW{β:Be}{l:List Nat}(h:Uz l=true):V β (.s l)=some (.string (Hr l)):=by unfold V;simp_all
theorem ON:∀(k:Nat) (l:List A),yK k l=l[k]?
 |0,[]=>rfl
 |0,a::l=>rfl
 |k+1,[]=>rfl
 |k+1,a::l=>by exact ON k l
theorem OM{n:Nat}:∀ {k:Nat} {l r:List A},yJ n k l=some r->k+n<=l.length/\r=(l.drop k).take n
 |0,l,r,h=>by
  have:yJ n 0 l=(bif ak n _ then some _ else none):=rfl
  grind[ak,ae,aa]
 |k+1,[],r,h=>by cases h
 |k+1,a::l,r,h=>by
  have:=OM (l:=l) h
  grind
theorem xx{vs:List A}:∀ {k:Nat} {l r:List A},putAt vs k l=some r->k+vs.length<=l.length/\r=l.take k++vs++l.drop (k+vs.length)
 |0,l,r,h=>by
  have:putAt vs 0 l=(bif ak _ _ then some _ else none):=rfl;cases hb:ak vs.length l.length<;>simp_all
 |k+1,[],r,h=>by cases h
 |k+1,a::l,r,h=>by
  have c:=h;obtain⟨q,b,d⟩:=Qc c;have:=xx b
  grind
theorem QHf(n:Int):QLc n=IntKind.i64.wrap n:=by
 cases n with
 |ofNat m =>
  show(bif ak m 9223372036854775807 then bN m else IntKind.i64.wrap _)=_;cases hb:ak m 9223372036854775807 with
  |false=>rfl
  |true =>
   have:=ae hb
   grind[bY]
 |negSucc m =>
  show(bif ak m 9223372036854775807 then Int.negSucc m else IntKind.i64.wrap _)=_;cases hb:ak m 9223372036854775807 with
  |false=>grind
  |true =>
   have:=ae hb
   grind[bY]
theorem QJd(n:Int):wru n=IntKind.u64.wrap n:=by
 cases n<;>rfl
theorem jg(k:IntKind)(n:Int):wr k n=k.wrap n:=by
 cases k<;>first | exact QHf n | exact QJd n | rfl
theorem RG(a b:Int):lsI a b=decide (a<b):=by
 cases a with
 |ofNat a=>cases b with
  |ofNat b =>
   show ak _ b=_;cases h:ak _ b with
   |true=>have:=ae h;grind
   |false=>grind[decide_eq_false_iff_not,ak,aB]
  |negSucc b=>rfl
 |negSucc a=>cases b with
  |ofNat b=>symm;show decide _=true;grind
  |negSucc b =>
   show ak _ a=_;cases h:ak _ a with
   |true=>have:=ae h;grind
   |false=>grind[decide_eq_false_iff_not,ak,aB]
theorem eqI_eq(a b:Int):eqI a b=(a==b):=by
 cases a with
 |ofNat a=>cases b with
  |ofNat b =>
   show ao a b=_;cases h:ao a b with
   |true=>simp_all
   |false=>symm;rw[beq_eq_false_iff_ne];intro e;injection e with e;simp_all
  |negSucc b=>rfl
 |negSucc a=>cases b with
  |ofNat b=>rfl
  |negSucc b =>
   show ao a b=_;cases h:ao a b with
   |true=>simp_all
   |false=>symm;rw[beq_eq_false_iff_ne];intro e;simp_all
theorem QLB(a b:Int):adI a b=a+b:=by cases a<;>cases b<;>rfl
theorem QF8(a b:Int):muI a b=a*b:=by cases a<;>cases b<;>rfl
theorem eqL_eq:∀ {a b:List Nat},eqL a b=true->a=b
 |[],[],_=>rfl
 |[],_::_,h=>by cases h
 |_::_,[],h=>by cases h
 |a::l,b::r,h=>by
  have c:cn _ _ false=true:=h;rw[ZX]at c;split at c
  ·rename_i e;rw[ah e,eqL_eq c]
  trivial
theorem eqL_ne:∀ {a b:List Nat},eqL a b=false->a≠b
 |[],[],h,_=>by cases h
 |[],_::_,_,e=>by cases e
 |_::_,[],_,e=>by cases e
 |a::l,b::r,h,e=>by
  have c:cn _ _ false=false:=h;rw[ZX]at c;injection e with e1 e2;subst e1;rw[if_pos (bz a)]at c;exact eqL_ne c e2
theorem QCh{a b:List Nat}(c:Uz a=true)(hb:Uz b=true)(h:Hr a=Hr b):a=b:=by
 unfold Hr at h;have key:∀ {a b:List Nat},Uz a=true->Uz b=true->a.map aD=b.map aD->a=b:=by
  intro a
  induction a with
  |nil=>simp
  |cons x a ih=>intro b c hb h;cases b with
   |nil=>cases h
   |cons y b =>
    injection h with h1 h2;unfold Uz at c hb;rw[bB,aq]at c hb;have hx:=ae c.1;have d:=ae hb.1;have h3:=congrArg eC h1;rw[bm,bm]at h3;rw[bj (by omega),bj (by omega)]at h3;rw[h3,ih c.2 hb.2 h2]
 grind
theorem V3(l:List Nat):(Hr l).size=l.length:=by simp[Hr,ByteArray.size]
theorem QHj(a b:List Nat):Hr a++Hr b=Hr (a++b):=by
 unfold Hr;apply bL;simp
end Go.Ev
namespace Go.Ev
open Go.RowKit
theorem Y2{a b:IntKind}(h:uw a b=true):a=b:=by cases a<;>cases b<;>first | rfl | cases h
section
variable{P:Program}{β:Be}
theorem uy{c:BinOp}{T:TypeId}{k i:IntKind}{a b:Int}{x y:Operand}{r:A}(hk:(QL4 c||uw k i)=true)(h:(QMg c).f k a b=some r):
  ∃v,V β r=some v/\∀w,(do eqGuard c T x y (.int k a) (.int i b);binOp c T (.int k a) (.int i b):Sem Value).run P w = .ok v w:=by
 have d:∀w,(eqGuard c T x y (.int k a) (.int i b)).run P w = .ok () w:=fun w=>by cases c<;>rfl
 cases c with
 |shl =>
  cases b with
  |ofNat b =>
   cases aa h;refine⟨_,rfl,fun w=>?_⟩;rw[ai,d,af,jg,QF8];rfl
  |negSucc b=>cases h
 |shr =>
  cases b with
  |ofNat b =>
   cases aa h;refine⟨_,rfl,fun w=>?_⟩;rw[ai,d,af];have e:(bN b).toNat=b:=rfl;have m:¬(bN b<0):=by simp
   simp only[binOp,Op.shift,if_neg m,e,aw];congr 2;cases a with
   |ofNat a =>
    show Int.fdiv (a:Int) _=bN (a/2^(min b _))
    grind
   |negSucc a=>rfl
  |negSucc b=>cases h
 |add =>
  have:=Y2 hk;cases aa h;exact⟨_,rfl,fun w=>by simp_all[ai,af,jg,QLB,binOp,eH]⟩
 |sub =>
  have:=Y2 hk;subst this;cases aa h;exact⟨_,rfl,fun w=>by rw[ai,d,af,jg];simp[binOp,eH];rfl⟩
 |mul =>
  have:=Y2 hk;cases aa h;exact⟨_,rfl,fun w=>by simp_all[ai,af,jg,QF8,binOp,eH]⟩
 |quo =>
  have:=Y2 hk;have g:(bif eqI b 0 then none else some _)=some r:=h;cases hb:eqI b 0 with
  |true=>simp_all
  |false =>
   rw[hb]at g;cases aa g;have j:b≠0:=by grind[eqI_eq]
   exact⟨_,rfl,fun w=>by simp_all[ai,af,jg,binOp,Op.intDiv]⟩
 |rem =>
  have:=Y2 hk;have g:(bif eqI b 0 then none else some _)=some r:=h;cases hb:eqI b 0 with
  |true=>simp_all
  |false =>
   rw[hb]at g;cases aa g;have j:b≠0:=by grind[eqI_eq]
   exact⟨_,rfl,fun w=>by simp_all[ai,af,binOp,Op.intDiv]⟩
 |and =>
  have:=Y2 hk;cases aa h;refine⟨_,rfl,fun w=>?_⟩;have e:QLA k a b=k.wrap (aX _ a &&& aX k.bits b).toNat:=by
   unfold QLA;split
   ·rename_i x y;show bN ((x &&& y)%18446744073709551616)=_;show _=IntKind.u64.wrap ((fG 64 x &&& fG 64 y).toNat:Int);rw[BitVec.toNat_and,eY,eY,<-Nat.and_mod_two_pow];generalize x &&& y=q;exact congrArg _ (Nat.mod_mod q 18446744073709551616).symm
   ·rfl
  simp_all[binOp,fj]
 |or =>
  have:=Y2 hk;cases aa h;exact⟨_,rfl,fun w=>by simp_all[ai,af,binOp,fj]⟩
 |xor =>
  have:=Y2 hk;cases aa h;exact⟨_,rfl,fun w=>by simp_all[ai,af,binOp,fj]⟩
 |andNot=>cases h
 |eql =>
  have:=Y2 hk;cases aa h;exact⟨_,rfl,fun w=>by simp_all[ai,af,eqI_eq,binOp,eu]⟩
 |neq =>
  have:=Y2 hk;subst this;cases aa h;exact⟨_,rfl,fun w=>by rw[ai,d,af,eqI_eq];simp[binOp,eu];rfl⟩
 |lss =>
  have:=Y2 hk;cases aa h;exact⟨_,rfl,fun w=>by simp_all[ai,af,RG,binOp,eu]⟩
 |gtr =>
  have:=Y2 hk;cases aa h;exact⟨_,rfl,fun w=>by simp_all[ai,af,RG,binOp,eu]⟩
 |leq =>
  have:=Y2 hk;subst this;cases aa h;exact⟨_,rfl,fun w=>by rw[ai,d,af,RG];simp[binOp,eu];grind⟩
 |geq =>
  have:=Y2 hk;subst this;cases aa h;exact⟨_,rfl,fun w=>by rw[ai,d,af,RG];simp[binOp,eu];grind⟩
theorem QCi{a b:List Nat}(c:Uz a=true)(hb:Uz b=true):(Hr a==Hr b)=eqL a b:=by
 show((Hr a).data==(Hr b).data)=_
 grind[eqL,eqL_eq,beq_eq_false_iff_ne,eqL_ne,QCh,bL]
theorem uc{a b:List Nat}(d:Uz a=true)(hb:Uz b=true):((Hr a).toList==(Hr b).toList)=eqL a b:=by
 rw[eP,eP];cases c:eqL a b with
 |true=>grind[eqL_eq]
 |false=>rw[beq_eq_false_iff_ne];exact fun e=>eqL_ne c (QCh d hb (bL (Array.toList_inj.1 e)))
def CK(v:Value):Bool:=match v with | .bool _ | .slice _ _ _ | .pointer _ | .func _ _ _ | .nilFunc | .nilIface | .agg _=>true | _=>false
theorem eq1_ok{T:TypeId}{a b:A}{g e:Value}{t:Bool}(h:(eq1 P T).f a b=some t)(j:V β a=some g)(hb:V β b=some e):
  g.oneCell'=true/\e.oneCell'=true/\isAgg P T=some false/\(∀d w,(aS (d+1) T g e).run P w = .ok t w)/\((CK g=true/\CK e=true)\/(∃k n k' n',a = .i k n/\b = .i k' n')\/(∃l l',a = .s l/\b = .s l')):=by
 unfold eq1 at h;split at h
 ·rename_i k c;replace h:eqIn a b=some t:=h;unfold eqIn at h;split at h
  ·rw[ZX]at h;split at h
   ·rename_i hk;have:=Y2 hk;subst this;cases aa h;rw[Fw j,Fw hb];refine⟨rfl,rfl,by simp[isAgg,c,QAS,bd],fun d w=>?_,.inr (.inl ⟨_,_,_,_,rfl,rfl⟩)⟩;rw[eqI_eq];simp[aS,run_underlying c]
   grind
  grind
 ·rename_i c;replace h:eqSt a b=some t:=h;unfold eqSt at h;split at h
  ·rename_i o m;obtain⟨q,rfl⟩:=uS j;obtain⟨p,rfl⟩:=uS hb;refine⟨rfl,rfl,by simp[isAgg,c,QAS,bd],fun d w=>?_,.inr (.inr ⟨_,_,rfl,rfl⟩)⟩;have:(Hr o==Hr m)=t:=(QCi q p).trans (aa h);simp[aS,run_underlying c,this]
  grind
 ·rename_i c;replace h:eqBl a b=some t:=h;unfold eqBl at h;split at h
  ·rename_i y x;cases aa h;rw[V_b j,V_b hb];exact⟨rfl,rfl,by simp[isAgg,c,QAS,bd],fun d w=>by simp[aS,run_underlying c],.inl ⟨rfl,rfl⟩⟩
  grind
 grind
theorem eqFs_ok{xs ys:List A}{us vs:List Value}(hx:Vs β xs=some us)(hy:Vs β ys=some vs)(d:Nat):∀(fs:List Field) (t:Bool),eqFs P fs xs ys=some t->∀w,
  (forIn (m:=Sem) fs ((none:Option Bool),()) (fun f _=>if f.name ≠ "_" then do
    let a <-part f.type us.toArray f.offset;let b <-part f.type vs.toArray f.offset;let c <-aS (d+1) f.type a b
    if(!c)=true then pure (ForInStep.done (some false,()))else pure (eX (none,()))
   else pure (eX (none,())))).run P w = .ok (if t then(none,())else(some false,())) w
 |[],t,h,w=>by cases aa h;rfl
 |f::fs,t,h,w=>by
  have h':=h;obtain⟨hn,h'⟩:=Q9 h';obtain⟨x,h1,h'⟩:=Qc h';obtain⟨y,h2,h'⟩:=Qc h';obtain⟨e,h3,h'⟩:=Qc h';rw[ON]at h1 h2;obtain⟨u,k1,k2⟩:=LF hx h1;obtain⟨v,k3,k4⟩:=LF hy h2;obtain⟨_,_,g1,g2,_⟩:=eq1_ok h3 k2 k4;have hn':f.name ≠ "_" := by simp_all
  have hagg:(fa f.type).run P w = .ok false w:=by
   obtain⟨dd,hd,g1⟩:=Qc g1;unfold fa;rw[ai,run_underlying hd w];have:=aa g1;cases dd<;>first | rfl | cases this
  have p1:(part f.type us.toArray f.offset).run P w = .ok u w:=by
   simp_all[part,ai]
  have p2:(part f.type vs.toArray f.offset).run P w = .ok v w:=by
   simp_all[part,ai]
  rw[List.forIn_cons,ai];simp only[ne_eq,hn',not_false_eq_true,if_true,ai,p1,p2,af,g2 d w];cases e with
  |true =>
   exact eqFs_ok hx hy d fs t h' w
  |false =>
   cases aa (show some false=some t from h')<;>rfl
theorem eqD_ok{T:TypeId}{a b:A}{g m:Value}{t:Bool}(h:(eqD P T).f a b=some t)(c:V β a=some g)(hb:V β b=some m):
    (∀w,(fK T g m).run P w = .ok t w)/\((∃x,g = .agg x)->P.eqGuardType P.depth T=false)/\((CK g=true/\CK m=true)\/(∃k n k' n',a = .i k n/\b = .i k' n')\/(∃l l',a = .s l/\b = .s l')):=by
  obtain⟨d,F,J,q⟩:∃d F,F=d+1/\∀g m w,(fK T g m).run P w=(aS (F+1) T g m).run P w:=⟨9998,9999,rfl,fun _ _ _=>rfl⟩;have one:(eq1 P T).f a b=some t->(∀w,(fK T g m).run P w = .ok t w)/\((∃x,g = .agg x)->P.eqGuardType P.depth T=false)/\((CK g=true/\CK m=true)\/(∃k n k' n',a = .i k n/\b = .i k' n')\/(∃l l',a = .s l/\b = .s l')):=fun h=>by
    obtain⟨z,y,h3,h4,h5⟩:=eq1_ok h c hb;exact⟨fun w=>(q _ _ w).trans (h4 F w),(fun⟨x,hx⟩=>(by subst hx;cases z)),h5⟩
  unfold eqD at h;split at h
  · rename_i e j
    replace h:eqSl a b=some t:=h;unfold eqSl at h;split at h<;>first
      | (cases h;done)
      | (cases aa h
         first
           | rw[uE c]at * | (obtain⟨p,_,rfl⟩:=V_l c) | (obtain⟨p,_,_,rfl⟩:=V_o c)
         first
           | rw[uE hb]at * | (obtain⟨E,_,rfl⟩:=V_l hb) | (obtain⟨E,_,_,rfl⟩:=V_o hb)
         exact⟨fun w=>by rw[q];simp[aS,run_underlying j],(fun⟨x,hx⟩=>by cases hx),.inl ⟨rfl,rfl⟩⟩)
  · rename_i e j
    rw[ZX]at h;split at h
    case isFalse=>cases h
    rename_i hi;obtain⟨ji,H⟩:=Option.isSome_iff_exists.1 hi;replace h:eqPt a b=some t:=h;unfold eqPt at h;split at h<;>first
      | (cases h;done)
      | (cases aa h
         first
           | rw[uE c]at * | (obtain⟨p,_,rfl⟩:=vB c)
         first
           | rw[uE hb]at * | (obtain⟨E,_,rfl⟩:=vB hb)
         exact⟨fun w=>by rw[q];simp[aS,run_underlying j],(fun⟨x,hx⟩=>by cases hx),.inl ⟨rfl,rfl⟩⟩)
      | skip
    rename_i n o n' o';rw[ZX]at h;split at h
    · rename_i K
      rw[ZX]at h;split at h
      · rename_i e2
        cases aa h;have:=Po.eq_eq K;subst this;have:=ah e2;subst this;obtain⟨p,z,rfl⟩:=vB c;obtain⟨E,y,rfl⟩:=vB hb;rw[z]at y;cases y;refine⟨fun w=>?_,(fun⟨x,hx⟩=>by cases hx),.inl ⟨rfl,rfl⟩⟩;rw[q];by_cases hz:ji.size=0<;>simp[aS,run_underlying j,sizeOf,typeInfo,H,hz,sameAddr]
      grind
    grind
  · rename_i j
    replace h:eqFn a b=some t:=h;unfold eqFn at h;split at h<;>first
      | (cases h;done)
      | (cases aa h
         first
           | rw[uE c]at * | (obtain⟨p,_,rfl⟩:=V_f c)
         first
           | rw[uE hb]at * | (obtain⟨E,_,rfl⟩:=V_f hb)
         exact⟨fun w=>by rw[q];simp[aS,run_underlying j],(fun⟨x,hx⟩=>by cases hx),.inl ⟨rfl,rfl⟩⟩)
  · rename_i j
    replace h:eqIf a b=some t:=h;unfold eqIf at h;split at h<;>first
      | (cases h;done)
      | (cases aa h
         rw[uE c,uE hb]at *
         exact⟨fun w=>by rw[q];simp[aS,run_underlying j],(fun⟨x,hx⟩=>by cases hx),.inl ⟨rfl,rfl⟩⟩)
  · rename_i fs j
    rw[ZX]at h;split at h
    · rename_i L
      rw[aq,ew,ew]at L;obtain⟨X,z,h⟩:=Qc h;obtain⟨U,y,h⟩:=Qc h;have:=A.QLN z;subst this;have:=A.QLN y;subst this;obtain⟨us,k1,rfl⟩:=V_g c;obtain⟨vs,Y,rfl⟩:=V_g hb;refine⟨fun w=>?_,fun _=>L.2,.inl ⟨rfl,rfl⟩⟩;rw[q];unfold aS;simp only[ai,run_underlying j,af];have K:(program:Sem Program).run P w = .ok P w:=rfl;rw[K,af,if_neg (by simp_all),ai,<-Array.forIn_toList];subst J;have hF:=eqFs_ok (P:=P) k1 Y d fs.toList t (show eqFs P fs.toList X U=some t from by assumption) w;refine(congrArg (fun r=>Result.andThen r _) hF).trans ?_;cases t<;>rfl
    grind
  simp_all
theorem QCM{a:A}(h:V β a=some .nilIface):a = .k .nilIface:=by
 cases a with
 |k u=>rw[uE h]
 |i _ _=>cases Fw h
 |b _=>cases V_b h
 |s _=>obtain⟨_,e⟩:=uS h;cases e
 |p _ _=>grind[vB]
 |l _ _ _ _=>grind[V_l]
 |o _ _ _ _=>grind[V_o]
 |m _=>grind[V_m]
 |f _ _=>grind[V_f]
 |y _=>grind[V_y]
 |g _=>grind[V_g]
 |t _=>grind[V_t]
 |xi T a =>
  unfold V at h;simp_all
theorem QHo{T:TypeId}{c:BinOp}{a b r:A}{e d:Value}{x y:Operand}(h:bin P T c a b=some r)(p:V β a=some e)(hb:V β b=some d)
  (hg:ifG a (isC x||isC y)=true):∃v,V β r=some v/\∀w,(do eqGuard c T x y e d;binOp c T e d:Sem Value).run P w = .ok v w:=by
 by_cases hi:∃k n K J,a = .i k n/\b = .i K J
 ·obtain⟨k,n,K,J,rfl,rfl⟩:=hi;replace h:cn _ _ none=some r:=h;rw[ZX]at h;split at h
  ·rename_i hk;rw[Bx.co]at h;rw[Fw p,Fw hb];exact uy hk h
  grind
 by_cases hs:∃l m,a = .s l/\b = .s m
 ·obtain⟨l,m,rfl,rfl⟩:=hs;replace h:QK6 c l m=some r:=h;obtain⟨X,rfl⟩:=uS p;obtain⟨U,rfl⟩:=uS hb;have E:∀w,(eqGuard c T x y (.string (Hr l)) (.string (Hr m))).run P w = .ok () w:=fun w=>by cases c<;>rfl
  unfold QK6 at h;split at h
  ·obtain⟨L,h⟩:=Q9 h;cases aa h;refine⟨_,vW (QH5 X U),fun w=>?_⟩;have L:=ae L;have h':¬(((Hr l).size+(Hr m).size:Nat):Int)>IntKind.i64.max:=by
    rw[V3,V3];have:IntKind.i64.max=9223372036854775807:=by decide
    grind[lim]
   rw[ai,E,af];simp only[binOp,fb,if_neg h',QHj];rfl
  ·cases aa h;exact⟨_,rfl,fun w=>by simp_all[ai,af,uc,binOp,fb]⟩
  ·cases aa h;exact⟨_,rfl,fun w=>by simp_all[ai,af,uc,binOp,fb]⟩
  grind
 have g:QK7 P T c a b=some r:=by
  unfold bin at h
  grind
 have key:∀t,(eqD P T).f a b=some t->(c = .eql\/c = .neq)->∀w,(do eqGuard c T x y e d;binOp c T e d:Sem Value).run P w = .ok (.bool (if c = .eql then t else !t)) w:=by
  intro t Y o w;obtain⟨j,q,h3⟩:=eqD_ok Y p hb;rcases h3 with ⟨H,F⟩ | h3 | h3
  ·have E:(eqGuard c T x y e d).run P w = .ok () w:=by
    unfold eqGuard;rcases o with rfl | rfl
    all_goals
     simp only[Bool.not_true,au,if_false,pure_bind];split
     ·have z:a = .k .nilIface:=by
       exact QCM p
      subst z;replace hg:(isC x||isC y)=true:=hg;rw[bF]at hg;unfold isC at hg;rcases hg with hg | hg
      ·obtain⟨v,rfl⟩:∃v,x = .const v:=by grind
       simp
      ·obtain⟨v,rfl⟩:∃v,y = .const v:=by grind
       simp
     all_goals simp_all
   rw[ai,E,af];rcases o with rfl | rfl
   ·cases e<;>cases H<;>cases d<;>cases F<;>simp[binOp,j]
   ·cases e<;>cases H<;>cases d<;>cases F<;>simp[binOp,j]
  all_goals trivial
 unfold QK7 at g;split at g
 ·rw[Bx.co]at g;obtain⟨t,j,q⟩:=Qc g;cases aa q;exact⟨_,rfl,fun w=>key t j (.inl rfl) w⟩
 ·rw[Bx.co]at g;obtain⟨t,j,q⟩:=Qc g;cases aa q;exact⟨_,rfl,fun w=>key t j (.inr rfl) w⟩
 trivial
end
end Go.Ev
namespace Go.Ev
open Go.RowKit
section
variable{P:Program}{β:Be}{c:Lc}{st:List A}{m:Tr A}{ρ:Operand->Value}
theorem Tb:∀ {l:List _} {as:List A},Hk c l st m=some as->(∀x∈l,∀a,ev c x st m=some a->V β a=some (ρ x))->Vs β as=some (l.map ρ)
 |[],as,h,_=>by cases aa h;rfl
 |x::l,as,h,b=>by
  obtain⟨a,e,h⟩:=Qc (show bd _ (fun a=>bd _ fun l=>some _)=some as from h);obtain⟨r,d,h⟩:=Qc h;cases aa h;exact Vr (b x (by simp) a e) (Tb d fun y f=>b y (by grind))
theorem zD:∀ {l:List _} {as:List _},parts c l st m=some as->(∀p∈l,∀a,ev c p.2 st m=some a->V β a=some (ρ p.2)) ->
  as.map (·.1)=l.map (·.1)/\Vs β (as.map (·.2))=some (l.map fun p=>ρ p.2)
 |[],as,h,_=>by cases aa h;trivial
 |x::l,as,h,b=>by
  obtain⟨a,i,h⟩:=Qc (show bd _ (fun a=>bd _ fun l=>some _)=some as from h);obtain⟨r,e,h⟩:=Qc h;cases aa h;obtain⟨g,f⟩:=zD e fun y d=>b y (by simp[d])<;>simp_all[Vr]
theorem RV{T:TypeId}{z:List A}(h:Ju P T=some z):∃i v,P.info? T=some i/\i.zero=some v/\Vs β z=some v.cells.toList:=by
 obtain⟨i,b,h⟩:=Qc h;obtain⟨v,a,h⟩:=Qc h<;>grind[aa,jf]
theorem H7{T:TypeId}{n:Nat}(h:Rk P T=some n):∃i,P.info? T=some i/\i.size=n:=by
 obtain⟨i,a,h⟩:=Qc h<;>simp_all[aa]
theorem QA2{T e:TypeId}(h:GZ P T=some e):P.underlying T=some (.slice e):=by
 obtain⟨d,a,h⟩:=Qc h<;>grind[aa]
theorem Ue{T:TypeId}{q:TypeId×Nat}(h:slS P T=some q):P.underlying T=some (.slice q.1)/\∃i,P.info? q.1=some i/\i.size=q.2:=by
 obtain⟨e,b,h⟩:=Qc h;obtain⟨s,a,h⟩:=Qc h<;>grind[aa,QA2,H7]
theorem pK{T:TypeId}{f:Nat}{q:Nat×TypeId}(h:Yt P T f=some q):∃fs x,P.underlying T=some (.struct fs)/\fs[f]?=some x/\x.offset=q.1/\x.type=q.2:=by
 obtain⟨d,b,h⟩:=Qc h;split at h
 ·obtain⟨x,a,h⟩:=Qc h<;>grind
 grind
theorem yD{T:TypeId}{g:Bool}(h:isAgg P T=some g)(w:World):(fa T).run P w = .ok g w:=by
 obtain⟨d,a,h⟩:=Qc h;unfold fa;rw[ai,run_underlying a w];have:=aa h;subst this;cases d<;>rfl
theorem OZ{a:A}{v:Value}(h:V β a=some v)(hk:∀u,a = .k u->uY u=true):Vs β a.cells=some v.cells.toList:=by
 cases a with
 |g l=>obtain⟨vs,c,rfl⟩:=V_g h<;>simp_all[A.cells,Value.cells]
 |k u=>have:=uE h;subst this;have:=hk _ rfl;cases v<;>first | trivial | rfl
 |i _ _=>rw[Fw h];rfl
 |b _=>rw[V_b h];rfl
 |s l=>obtain⟨k,rfl⟩:=uS h;exact Vr h rfl
 |p _ _=>obtain⟨p,c,rfl⟩:=vB h;exact Vr h rfl
 |l _ _ _ _=>obtain⟨p,c,rfl⟩:=V_l h;exact Vr h rfl
 |o _ _ _ _=>obtain⟨p,c,_,rfl⟩:=V_o h;exact Vr h rfl
 |m _=>obtain⟨p,c,rfl⟩:=V_m h;exact Vr h rfl
 |f _ _=>obtain⟨p,c,rfl⟩:=V_f h;exact Vr h rfl
 |y _=>obtain⟨p,c,rfl⟩:=V_y h;exact Vr h rfl
 |t _=>obtain⟨p,c,rfl⟩:=V_t h;exact Vr h rfl
 |xi T b =>
  have d:=h;obtain⟨p,c,rfl⟩:=Option.map_eq_some_iff.1 d;exact Vr h rfl
theorem Cz:∀(l:List Value) (j k:Nat) (cs:Array Value),k+j+l.length<=cs.size ->
  (l.zipIdx j).foldl (fun cs (x:Value×Nat)=>cs.setIfInBounds (k+x.2) x.1) cs=(cs.toList.take (k+j)++l++cs.toList.drop (k+j+l.length)).toArray
 |[],j,k,cs,_=>by simp
 |x::l,j,k,cs,h=>by
  rw[List.zipIdx_cons,fm,Cz l _ k _ (by grind)];congr 1;apply List.ext_getElem?;intro q;simp[Array.toList_setIfInBounds,List.getElem?_append,aF,bT,List.length_set,ee,List.length_cons,List.getElem?_take,List.getElem?_drop,List.getElem?_set,List.getElem?_cons]
  grind
theorem pL{c:Nat->Option _}{a:Nat->Option _}(K:∀i q,c i=some q->a i=some q):∀ {ps:List _} {cs r:List A} {us vs:List Value} {pv:List _},
  fill c ps cs=some r->Vs β cs=some us->pv.map (·.1)=ps.map (·.1)->Vs β (ps.map (·.2))=some (pv.map (·.2))->(∀p∈ps,∀u,p.2 = .k u->uY u=true) ->
  ∃rs,Vs β r=some rs/\bK a us.toArray pv=some rs.toArray
 |[],cs,r,us,vs,pv,h,g,m,w,_=>by
  cases aa h;cases pv with
  |nil=>exact⟨us,g,rfl⟩
  |cons _ _=>grind
 |p::ps,cs,r,us,vs,pv,h,g,m,w,hk=>by
  obtain⟨q,g1,h⟩:=Qc (show bd (c p.1) (fun q=>gu _ _)=some r from h);obtain⟨o,h⟩:=Q9 h;obtain⟨t,L,h⟩:=Qc h;cases pv with
  |nil=>grind
  |cons b pv =>
   simp at m;obtain⟨v,U,E,z,f⟩:=XY w;injection f with f k4;subst f;subst k4;have d:=OZ E (hk p (by simp));have o:=ah o;have H:b.2.cells.size=q.2:=by rw[<-o,<-Vj d];simp
   obtain⟨l1,Y⟩:=xx L;have F:=Vj g;have j:Vs β t=some (us.take q.1++b.2.cells.toList++us.drop (q.1+b.2.cells.toList.length)):=by
    grind[Vj,Tv,P3,Fh]
   obtain⟨rs,y,X⟩:=pL (vs:=vs) K h j m.2 z fun x hx=>hk x (by grind);refine⟨rs,y,?_⟩;unfold bK;have J:a b.1=some q:=by grind
   have e:=Cz b.2.cells.toList 0 q.1 us.toArray (by simp_all);have e0:b.2.cells.zipIdx.foldl (fun cs (x:Value×Nat)=>cs.setIfInBounds (q.1+x.2) x.1) us.toArray=(b.2.cells.toList.zipIdx 0).foldl (fun cs (x:Value×Nat)=>cs.setIfInBounds (q.1+x.2) x.1) us.toArray:=by
    rw[<-e8];simp
   simp_all
end
end Go.Ev
namespace Go.Ev
open Go.RowKit
theorem A.QKB{a:A}(h:a.ok=true):∀u,a = .k u->uY u=true:=fun u e=>by subst e;exact h
section
variable{P:Program}{β:Be}{c:Lc}{st:List A}{m:Tr A}{ρ:Operand->Value}
def Pu(P:Program)(β:Be)(o:Op)(ρ:Operand->Value)(a:A):Prop:=∃v,V β a=some v/\∀w d ty pos aft gd,(execOp ρ ⟨d,o,ty,pos,aft,gd⟩).run P w = .ok (.value v) w
theorem Pl.FI(p:Pl)(o k:Nat):(p.at o).add k=p.at (o+k):=by
 unfold Addr.add Pl.at<;>grind
theorem ze{w:World}:∀ {fs:List Field},(∀f∈fs,(P.info? f.type).isSome=true) ->
  (fs.mapM (m:=Sem) fun f=>do let s <-sizeOf f.type;pure (f.offset,s)).run P w = .ok (fs.map fun f=>(f.offset,((P.info? f.type).map (·.size)).getD 0)) w
 |[],_=>rfl
 |f::fs,h=>by
  obtain⟨i,a⟩:=Option.isSome_iff_exists.1 (h f (by simp));have ih:=ze (w:=w) (fs:=fs) fun g hg=>h g (by grind);have b:(sizeOf f.type).run P w = .ok i.size w:=by simp[sizeOf,typeInfo,a]
  simp_all
theorem QGt{T:TypeId}{i:TypeInfo}{o:Value}{z U:List A}{l:List _}{pv:List _}(c:QGv P T=true)(k1:P.info? T=some i)(k2:i.zero=some o)(H:Vs β z=some o.cells.toList)
  (h:fill (gS P T) l z=some U) (K:pv.map (·.1)=l.map (·.1)) (J:Vs β (l.map (·.2))=some (pv.map (·.2))) (hk:∀p∈l,∀u,p.2 = .k u->uY u=true) :
  ∃rs,Vs β U=some rs/\∀w,(eR T pv.toArray).run P w = .ok (.agg rs.toArray) w:=by
 unfold QGv at c;have L:∀w,(zeroValue T).run P w = .ok o w:=fun w=>by simp_all[zeroValue,typeInfo]
 split at c
 ·rename_i fs b;rw[az]at c;have E:∀i q,gS P T i=some q->((fs.toList.map fun f=>(f.offset,((P.info? f.type).map (·.size)).getD 0)).toArray)[i]?=some q:=fun i q a=>by
   obtain⟨d,g,a⟩:=Qc a;rw[b]at g;cases g;obtain⟨x,e2,a⟩:=Qc a;obtain⟨n,e3,a⟩:=Qc a<;>grind[aa,pK,H7]
  obtain⟨rs,t,F⟩:=pL (vs:=[]) E h H K J hk;refine⟨rs,t,fun w=>?_⟩;have hm:=ze (w:=w) (fun f hf=>c f hf);have Y:(fs.mapM (m:=Sem) fun f=>do let s <-sizeOf f.type;pure (f.offset,s)).run P w = .ok (fs.toList.map fun f=>(f.offset,((P.info? f.type).map (·.size)).getD 0)).toArray w:=by
   have:fs=fs.toList.toArray:=rfl;rw[this,List.mapM_toArray];simp only[Sem.run_map,hm];rfl
  unfold eR;simp[ai,L,af,run_underlying b];have X:bK (fun x=>(List.map (fun f=>(f.offset,(fI (fun x=>x.size) (P.info? _)).getD 0)) fs.toList).toArray[x]?) _ _=some _:=F;simp_all
 ·rename_i n e b;obtain⟨sz,y⟩:=Option.isSome_iff_exists.1 c;obtain⟨j,g5,g6⟩:=H7 y;have E:∀i q,gS P T i=some q->some (i*sz,sz)=some q:=fun i q a=>by
   obtain⟨d,g,a⟩:=Qc a;rw[b]at g;cases g;obtain⟨s,e2,a⟩:=Qc a<;>simp_all
  obtain⟨rs,t,F⟩:=pL (vs:=[]) E h H K J hk;refine⟨rs,t,fun w=>?_⟩;have es:(sizeOf e).run P w = .ok sz w:=by simp_all[sizeOf,typeInfo]
  unfold eR;simp[ai,L,af,run_underlying b,es];simp_all
 trivial
theorem ub(l:List Nat)(i j:Nat):(Hr l).extract i j=Hr ((l.take j).drop i):=by
 apply bL;unfold Hr;simp only[eK,List.extract_toArray,eN]
 grind
theorem QCn{T:TypeId}(h:WS P T=true)(w:World):(underlying T).run P w = .ok .string w:=by
 grind[WS,run_underlying]
theorem QKs{T:TypeId}{x a:A}{i:Nat}{t:Value}(h:(QKu P T).f x i=some a)(hx:V β x=some t)(k:IntKind):
  ∃v,V β a=some v/\∀w,(ep T t (.int k (.ofNat i))).run P w = .ok v w:=by
 unfold QKu at h;split at h
 ·rename_i e d;split at h
  ·rename_i sz o;obtain⟨j,m,g⟩:=H7 o;replace h:QKt sz x i=some a:=h;unfold QKt at h;split at h
   ·obtain⟨b,h⟩:=Q9 h;cases aa h;obtain⟨p,c,rfl⟩:=V_l hx;have b:=ae b;refine⟨_,by show(β _).map _=_;rw[c];rfl,fun w=>?_⟩;simp[ep,asIntOf,run_underlying d,sizeOf,typeInfo,m,g,Pl.FI];omega
   ·obtain⟨b,h⟩:=Q9 h;obtain⟨h3,h⟩:=Q9 h;cases aa h;obtain⟨p,c,_,rfl⟩:=V_o hx;have b:=ae b;refine⟨_,by show(β _).map _=_;rw[c];rfl,fun w=>?_⟩;simp[ep,asIntOf,run_underlying d,sizeOf,typeInfo,m,g,Pl.FI];omega
   grind
  grind
 ·rename_i len e d;split at h
  ·rename_i sz o;obtain⟨j,m,g⟩:=H7 o;obtain⟨q,b,h⟩:=Qc (show bd x.P (fun q=>gu _ _)=some a from h);obtain⟨y,h⟩:=Q9 h;cases aa h;rw[A.jC b]at hx;obtain⟨p,c,rfl⟩:=vB hx;have y:=ae y;refine⟨_,by show(β _).map _=_;rw[c];rfl,fun w=>?_⟩;simp[ep,asIntOf,run_underlying d,bJ,sizeOf,typeInfo,m,g,Pl.FI];omega
  grind
 grind
def Bdd(n:Option Nat)(v:Option Value):Prop:=(n=none/\v=none)\/∃k i,n=some i/\v=some (.int k (.ofNat i))
theorem QGY{x:Option _}{n:Option Nat}(h:UG c x st m=some n)(d:∀y,x=some y->∀a,ev c y st m=some a->V β a=some (ρ y)):Bdd n (x.map ρ):=by
 unfold UG at h;split at h
 ·cases aa h;exact .inl ⟨rfl,rfl⟩
 ·rename_i y;obtain⟨a,b,h⟩:=Qc h;obtain⟨i,f,h⟩:=Qc h;cases aa h;obtain⟨k,e⟩:=A.QHE f;rw[e]at b;exact .inr ⟨k,i,rfl,by rw[eD,Fw (d y rfl _ b)]⟩
theorem SU{s:Bool}{len cap:Nat}{n1 a:Option Nat}{lo b:Option Value}(f:Bdd n1 lo)(e:Bdd a b)(d:n1.getD 0<=a.getD len)(c:a.getD len<=cap)(w:World):
  (fc s len cap lo b none).run P w = .ok (n1.getD 0,a.getD len,cap) w:=by
 rcases f with ⟨rfl,rfl⟩ | ⟨k,i,rfl,rfl⟩<;>rcases e with ⟨rfl,rfl⟩ | ⟨g,h,rfl,rfl⟩<;>simp at d c
 all_goals simp_all[fc,Instr.sliceBound,asIntOf]
theorem QE5{T:TypeId}{n1 H:Option Nat}{x a:A}{F:Value}{lo L:Option Value}(h:QA1 P T n1 H x=some a)(hx:V β x=some F)(o:Bdd n1 lo)(m:Bdd H L):
  ∃v,V β a=some v/\∀w,(bA T F lo L none).run P w = .ok v w:=by
 unfold QA1 at h;split at h
 ·obtain⟨f,h⟩:=Q9 h;obtain⟨c,h⟩:=Q9 h;obtain⟨b,h⟩:=Q9 h;cases aa h;obtain⟨U,rfl⟩:=uS hx;refine⟨_,vW (QF1 _ (QF0 _ U)),fun w=>?_⟩;have hb:=SU (P:=P) (s:=false) o m (ae c) (ae b) w;have g:=QCn f w;simp only[bA,ai,g,af,eE,V3,hb];simp only[Option.isSome_none,au,if_false,pure_bind,ai,hb,af,aw,ub]
 ·rename_i q off len cap;obtain⟨e,f,h⟩:=Qc h;obtain⟨c,h⟩:=Q9 h;obtain⟨b,h⟩:=Q9 h;cases aa h;obtain⟨p,k,rfl⟩:=V_l hx;obtain⟨g,j,E,z⟩:=Ue f;refine⟨_,by show(β _).map _=_;rw[k];rfl,fun w=>?_⟩;have hb:=SU (P:=P) (s:=true) o m (ae c) (ae b) w;have i:(sizeOf e.1).run P w = .ok e.2 w:=by simp_all[sizeOf,typeInfo]
  simp only[bA,ai,run_underlying g,af,eE,hb,i,aw];rw[ZX];by_cases X:cap=n1.getD 0<;>simp_all[if_pos,bz,if_neg,ah,eD,Pl.FI]
 ·rename_i q off len sz;obtain⟨e,f,h⟩:=Qc h;obtain⟨t,h⟩:=Q9 h;obtain⟨c,h⟩:=Q9 h;obtain⟨b,h⟩:=Q9 h;obtain⟨K,h⟩:=Q9 h;obtain⟨J,h⟩:=Q9 h;cases aa h;obtain⟨p,k,y,rfl⟩:=V_o hx;obtain⟨g,j,E,z⟩:=Ue f;have t:=ah t;have c:=ae c;have b:=ae b;have K:=ae K;have J:=ae J;have Y:(p.size-(p.EW+(off+n1.getD 0*sz)))/sz=(p.size-(p.EW+off))/sz-n1.getD 0:=by
   rw[<-bS,<-Nat.sub_sub,Nat.mul_comm];exact Nat.sub_mul_div ..
  refine⟨_,kM k (by omega),fun w=>?_⟩;have hb:=SU (P:=P) (s:=true) o m c (aM b y) w;have i:(sizeOf e.1).run P w = .ok sz w:=by simp_all[sizeOf,typeInfo]
  simp only[bA,ai,run_underlying g,af,eE,hb,i,aw,Y];rw[if_neg (by omega),eD,Pl.FI]
 ·rename_i q off;obtain⟨d,f,h⟩:=Qc h;split at h
  ·rename_i len e;obtain⟨sz,t,h⟩:=Qc h;obtain⟨c,h⟩:=Q9 h;obtain⟨b,h⟩:=Q9 h;cases aa h;obtain⟨p,k,rfl⟩:=vB hx;obtain⟨j,E,z⟩:=H7 t;refine⟨_,by show(β _).map _=_;rw[k];rfl,fun w=>?_⟩;have hb:=SU (P:=P) (s:=false) o m (ae c) (ae b) w;have i:(sizeOf e).run P w = .ok sz w:=by simp_all[sizeOf,typeInfo]
   simp only[bA,ai,run_underlying f,af,bJ,hb,i,aw];congr 2;rw[ZX];by_cases X:len=n1.getD 0<;>simp_all[if_pos,bz,if_neg,ah,Pl.FI]
  grind
 ·obtain⟨e,f,h⟩:=Qc h;obtain⟨c,h⟩:=Q9 h;obtain⟨b,h⟩:=Q9 h;cases aa h;have:=uE hx;subst this;obtain⟨g,j,E,z⟩:=Ue f;have c:=ah c;have b:=ah b;refine⟨_,rfl,fun w=>?_⟩;have hb:=SU (P:=P) (s:=true) (len:=0) (cap:=0) o m (by omega) (by omega) w;have i:(sizeOf e.1).run P w = .ok e.2 w:=by simp_all[sizeOf,typeInfo]
  simp only[bA,ai,run_underlying g,af,eE,hb,i,aw,c,b];rfl
 grind
theorem RD{b:Builtin}{args:Array _}{f:Array _}{vs:List Value}(hv:args.toList.map ρ=vs){d:Option Tmp}{e:TypeId}{a:String}{c:Array Edge}{g:Option _}:
  execOp ρ ⟨d,.call ⟨.builtin b,args,f⟩,e,a,c,g⟩=builtin b f e (args.map fun | .const _=>true | _=>false) vs.toArray:=by
 subst hv;have:args.map ρ=(args.toList.map ρ).toArray:=by grind
 rw[<-this];rfl
theorem Kq{vs:List Value}(h:Vs β []=some vs):vs=[]:=(aa h).symm
theorem QKd{args:Array _}{j:Array _}{f:List A}{a:A}(h:TF .min f=some a)(hv:Vs β f=some (args.toList.map ρ)):Pu P β (.call ⟨.builtin .min,args,j⟩) ρ a:=by
 unfold TF at h;split at h
 ·cases aa h;obtain⟨i,m,g1,e,d⟩:=XY hv;obtain⟨g,k,c,b,rfl⟩:=XY e;have:=Kq b;subst this;refine⟨_,rfl,fun w _ _ _ _ _=>?_⟩;rw[RD d,Fw g1,Fw c,ZX,RG];simp[builtin,fu,fy]
 ·trivial
 ·cases aa h;obtain⟨i,m,g1,e,d⟩:=XY hv;obtain⟨g,k,c,b,rfl⟩:=XY e;obtain⟨q,t,p,o,rfl⟩:=XY b;have:=Kq o;subst this;refine⟨_,rfl,fun w _ _ _ _ _=>?_⟩;rw[RD d,Fw g1,Fw c,Fw p,ZX,ZX,RG,RG];simp[builtin,fu,fy]
 all_goals trivial
theorem QKf{args:Array _}{j:Array _}{f:List A}{a:A}(h:TF .max f=some a)(hv:Vs β f=some (args.toList.map ρ)):Pu P β (.call ⟨.builtin .max,args,j⟩) ρ a:=by
 unfold TF at h;split at h
 ·trivial
 ·cases aa h;obtain⟨i,m,g1,e,d⟩:=XY hv;obtain⟨g,k,c,b,rfl⟩:=XY e;have:=Kq b;subst this;refine⟨_,rfl,fun w _ _ _ _ _=>?_⟩;rw[RD d,Fw g1,Fw c,ZX,RG];simp[builtin,fz,fA]
 ·trivial
 ·cases aa h;obtain⟨i,m,g1,e,d⟩:=XY hv;obtain⟨g,k,c,b,rfl⟩:=XY e;obtain⟨q,t,p,o,rfl⟩:=XY b;have:=Kq o;subst this;refine⟨_,rfl,fun w _ _ _ _ _=>?_⟩;rw[RD d,Fw g1,Fw c,Fw p,ZX,ZX,RG,RG];simp[builtin,fz,fA]
 all_goals trivial
theorem QK1{args:Array _}{f:Array _}{d:List A}{a:A}{e:TypeId}(b:bd f[0]? (GZ P)=some e)(h:TF .cap d=some a)(hv:Vs β d=some (args.toList.map ρ)):Pu P β (.call ⟨.builtin .cap,args,f⟩) ρ a:=by
 obtain⟨k,m,b⟩:=Qc b;have b:=QA2 b;unfold TF at h;split at h
 ·trivial
 ·trivial
 ·trivial
 ·trivial
 ·cases aa h;obtain⟨g,i,g1,j,c⟩:=XY hv;obtain⟨p,o,rfl⟩:=V_l g1;refine⟨_,rfl,fun w _ _ _ _ _=>?_⟩;rw[RD c]<;>simp_all[builtin,fB,run_underlying,goInt]
 ·cases aa h;obtain⟨g,i,g1,j,c⟩:=XY hv;have:=uE g1;refine⟨_,rfl,fun w _ _ _ _ _=>?_⟩;rw[RD c]<;>simp_all[builtin,fB,run_underlying,goInt]
 grind
theorem QJF{o:Op}{g:Bx Ac}{a:A}(h:kj P c o=some g)(hg:g.f st m=some a)(H:∀x∈o.operands,∀a,ev c x st m=some a->V β a=some (ρ x)):Pu P β o ρ a:=by
 unfold kj at h;split at h
 ·cases aa h;exact⟨_,H _ (by simp[aj]) a (by trivial),fun w _ _ _ _ _=>rfl⟩
 ·cases aa h;exact⟨_,H _ (by simp[aj]) a (by trivial),fun w _ _ _ _ _=>rfl⟩
 ·rename_i x y z;cases aa h;obtain⟨b,E,hg⟩:=Qc hg;obtain⟨t,F,hg⟩:=Qc hg;have:=A.QI4 F;subst this;have hx:=V_b (H x (by simp[aj]) _ E);cases t with
  |true=>exact⟨_,H y (by simp[aj]) a hg,fun w _ _ _ _ _=>by simp[execOp,hx,asBool]⟩
  |false=>exact⟨_,H z (by simp[aj]) a hg,fun w _ _ _ _ _=>by simp[execOp,hx,asBool]⟩
 ·rename_i T ps;cases aa h;obtain⟨h0,hg⟩:=Q9 hg;obtain⟨z,E,hg⟩:=Qc hg;obtain⟨l,F,hg⟩:=Qc hg;obtain⟨h3,hg⟩:=Q9 hg;obtain⟨cs,U,hg⟩:=Qc hg;cases aa hg;obtain⟨i,zv,K,J,k3⟩:=RV E;obtain⟨p1,p2⟩:=zD F (fun p hp=>H p.2 (by simp only[aj,fg,fJ];grind));rw[az]at h3;obtain⟨rs,r1,r2⟩:=QGt (β:=β) h0 K J k3 (pv:=ps.toList.map fun p=>(p.1,ρ p.2)) U (by simp_all) (by simp_all) (fun p hp=>A.QKB (h3 p hp));refine⟨.agg rs.toArray,by unfold V<;>grind,fun w _ _ _ _ _=>?_⟩;have e:(ps.map fun(x:Nat×Operand)=>(x.1,ρ x.2))=(ps.toList.map fun p=>(p.1,ρ p.2)).toArray:=by grind
  have:=r2 w;rw[<-e]at this;simp only[execOp,ai];simp_all
 ·rename_i x;cases aa h;obtain⟨v,E,hg⟩:=Qc hg;obtain⟨F,hg⟩:=Q9 hg;cases aa hg;have hx:=H x (by simp[aj]) _ E;refine⟨_,hx,fun w _ _ _ _ _=>?_⟩;unfold okN at F;split at F
  ·obtain⟨p,_,e⟩:=vB hx;simp only[execOp,e];rfl
  ·obtain⟨p,_,e⟩:=V_f hx;simp only[execOp,e];rfl
  trivial
 ·rename_i op T x y yT;cases aa h;obtain⟨a1,E,hg⟩:=Qc hg;obtain⟨b1,F,hg⟩:=Qc hg;obtain⟨h3,hg⟩:=Q9 hg;obtain⟨v,K,J⟩:=QHo hg (H x (by simp[aj]) _ E) (H y (by simp[aj]) _ F) h3;refine⟨v,K,fun w _ _ _ _ _=>?_⟩;have:=J w;simp only[execOp];simp only[ai]at this ⊢;simp_all
 ·rename_i T x;cases aa h;obtain⟨b,E,hg⟩:=Qc hg;obtain⟨t,F,hg⟩:=Qc hg;have:=A.QI4 F;subst this;cases aa hg;have hx:=V_b (H x (by simp[aj]) _ E);exact⟨_,rfl,fun w _ _ _ _ _=>by simp[execOp,hx,Op.unary]⟩
 ·rename_i T x;cases aa h;obtain⟨b,E,hg⟩:=Qc hg;obtain⟨q,F,hg⟩:=Qc hg;have:=A.QMw F;subst this;cases aa hg;have hx:=Fw (H x (by simp[aj]) _ E);refine⟨_,rfl,fun w _ _ _ _ _=>?_⟩;rw[jg];simp[execOp,hx,Op.unary,eH];rfl
 ·rename_i fn x y;cases aa h;obtain⟨E,hg⟩:=Q9 hg;obtain⟨l,F,hg⟩:=Qc hg;cases aa hg;have:=Tb F fun z hz=>H z (by grind[aj]);have hx:x=#[]:=by simp_all
  subst hx;refine⟨.func (.func fn) #[] (y.toList.map ρ).toArray,by unfold V<;>simp_all,fun w _ _ _ _ _=>?_⟩;simp[execOp,Instr.makeFunc]
  grind
 ·rename_i T x lo hi;cases aa h;obtain⟨s,E,hg⟩:=Qc hg;obtain⟨av,F,hg⟩:=Qc hg;obtain⟨hv,h3,hg⟩:=Qc hg;have hx:=H x (by simp[aj]) _ E;have hlo:=QGY F (fun y hy=>H y (by grind[aj]));have hhi:=QGY h3 (fun y hy=>H y (by grind[aj]));obtain⟨v,K,J⟩:=QE5 hg hx hlo hhi;refine⟨v,K,fun w _ _ _ _ _=>?_⟩;have:=J w;simp only[execOp,ai,Option.map_none];simp_all
 ·rename_i T x f;cases aa h;obtain⟨s,E,hg⟩:=Qc hg;obtain⟨q,F,hg⟩:=Qc hg;obtain⟨Y,h3,hg⟩:=Qc hg;obtain⟨z,U,hg⟩:=Qc hg;obtain⟨h5,hg⟩:=Q9 hg;cases aa hg;have:=A.jC F;subst this;obtain⟨p,hp,hx⟩:=vB (H x (by simp[aj]) _ E);obtain⟨fs,fx,g1,g2,g3,g4⟩:=pK h3;obtain⟨j,g5,g6⟩:=H7 U;have h5:=ae h5;refine⟨.pointer (some (p.at (q.2+Y.1))),by show(β q.1).map _=_;simp_all,fun w _ _ _ _ _=>?_⟩;have es:(sizeOf fx.type).run P w = .ok z w:=by simp_all[sizeOf,typeInfo]
  have ea:(p.at q.2).add fx.offset=p.at (q.2+Y.1):=by grind[Pl.FI]
  simp[execOp,hx,Instr.fieldAt,run_underlying g1,g2,bJ,fieldPlace,es,ea,show z≠0 by omega]
 ·rename_i T x f;cases aa h;obtain⟨s,E,hg⟩:=Qc hg;obtain⟨l,F,hg⟩:=Qc hg;obtain⟨Y,h3,hg⟩:=Qc hg;obtain⟨ag,U,hg⟩:=Qc hg;have:=A.QLN F;subst this;obtain⟨us,L,hx⟩:=V_g (H x (by simp[aj]) _ E);obtain⟨fs,fx,g1,g2,g3,g4⟩:=pK h3;have hagg:=yD U;rw[<-g4]at hagg;cases ag with
  |true =>
   obtain⟨z,h5,hg⟩:=Qc (show bd (Rk P Y.2) (fun sz=>bd (yJ sz Y.1 l) fun l=>some (.g l))=some a from hg);obtain⟨r,h6,hg⟩:=Qc hg;cases aa hg;obtain⟨j,g5,g6⟩:=H7 h5;obtain⟨l1,l2⟩:=OM h6;have hr:Vs β r=some ((us.drop Y.1).take z):=by grind[P3,Fh]
   refine⟨.agg ((us.drop Y.1).take z).toArray,by unfold V<;>grind,fun w _ _ _ _ _=>?_⟩;have es:(sizeOf fx.type).run P w = .ok z w:=by simp_all[sizeOf,typeInfo]
   simp_all[eN,execOp,fM,run_underlying,asAgg,part]
  |false =>
   have hg:=hg;rw[ON]at hg;obtain⟨v,K,J⟩:=LF L hg;refine⟨v,J,fun w _ _ _ _ _=>?_⟩<;>simp_all[execOp,fM,run_underlying,asAgg,part]
 ·rename_i T x y;cases aa h;obtain⟨s,E,hg⟩:=Qc hg;obtain⟨b,F,hg⟩:=Qc hg;obtain⟨i,h3,hg⟩:=Qc hg;obtain⟨k,e⟩:=A.QHE h3;rw[e]at F;have hx:=H x (by simp[aj]) _ E;have hy:=Fw (H y (by simp[aj]) _ F);rw[Bx.co]at hg;obtain⟨v,K,J⟩:=QKs hg hx k;refine⟨v,K,fun w _ _ _ _ _=>?_⟩;have:=J w;simp only[execOp,hy,ai];simp_all
 ·rename_i T x y;cases aa h;obtain⟨X,hg⟩:=Q9 hg;have X:=QCn X;obtain⟨s,E,hg⟩:=Qc hg;obtain⟨l,F,hg⟩:=Qc hg;obtain⟨b,h3,hg⟩:=Qc hg;obtain⟨i,U,hg⟩:=Qc hg;obtain⟨ch,h5,hg⟩:=Qc hg;cases aa hg;obtain⟨k,e⟩:=A.QHE U;rw[e]at h3;rw[A.QCR F]at E;obtain⟨hl,hx⟩:=uS (H x (by simp[aj]) _ E);have hy:=Fw (H y (by simp[aj]) _ h3);refine⟨_,rfl,fun w _ _ _ _ _=>?_⟩;have hlt:=(List.getElem?_eq_some_iff.1 h5).1;have hc:ak ch 255=true:=by grind[Uz,az,List.mem_of_getElem]
  have hc:=ae hc;have e5:(Hr l)[i]?=some (aD ch):=by
   rw[getElem?_pos (Hr l) i (by grind[V3])];congr 1;show(Hr l).data[i]'_=_
   grind[Hr]
  simp only[execOp,hx,hy];simp[Instr.index,asIntOf,X,e5];omega
 ·rename_i x i;cases aa h;obtain⟨s,E,hg⟩:=Qc hg;obtain⟨l,F,hg⟩:=Qc hg;rw[A.QNq F]at E;obtain⟨us,L,hx⟩:=V_t (H x (by simp[aj]) _ E);rw[ON]at hg;obtain⟨v,K,J⟩:=LF L hg;refine⟨v,J,fun w _ _ _ _ _=>?_⟩<;>simp_all[execOp,Instr.extract]
 ·rename_i T x;cases aa h;obtain⟨hT,hg⟩:=Q9 hg;obtain⟨b,E,hg⟩:=Qc hg;cases aa hg;have hx:=H x (by simp[aj]) _ E;refine⟨.iface T (ρ x),by unfold V<;>grind,fun w _ _ _ _ _=>?_⟩;unfold QL6 at hT;split at hT
  ·cases hT
  ·rename_i d hd hu;have hm:∀w,(eV T (ρ x)).run P w = .ok (.iface T (ρ x)) w:=fun w=>by
    unfold eV;rw[ai,run_underlying hu]<;>simp_all
   grind[execOp,ai,af,aw]
  trivial
 ·rename_i args ts;cases aa h;obtain⟨xs,E,hg⟩:=Qc hg<;>grind[Tb,aj,aQ,QKd]
 ·rename_i args ts;cases aa h;obtain⟨xs,E,hg⟩:=Qc hg<;>grind[Tb,aj,aQ,QKf]
 ·rename_i args ts;split at h
  ·rename_i e hu;cases aa h;obtain⟨xs,E,hg⟩:=Qc hg<;>grind[Tb,aj,aQ,QK1]
  grind
 grind
end
end Go.Ev
namespace Go.Ev
open Go.RowKit
section
variable{P:Program}{β:Be}{c:Lc}{st:List A}{m:Tr A}{ρ:Operand->Value}{h:Tr B}{w:World}
theorem Ob.cell(k:Ob β h w){q:Po}{b:B}{l:List A}(X:h.get q=some b)(hl:b.o.D=some l){p:Pl}(Y:β q=some p):
  ∃vs,Vs β l=some vs/\(∀i v,vs[i]?=some v->w.cell? (p.at i)=some v)/\(∃T n,w.shape? p.ZH=some (T,n)/\n=p.size):=by
 obtain⟨p',o,L,E,h3⟩:=k q b X;rw[Y]at L;cases L;rcases O.QN1 hl with ⟨T,op,e⟩ | ⟨T,e⟩
 ·rw[e]at h3;obtain⟨K,vs,rfl,J,H,F,_⟩:=h3;exact⟨vs,H,fun i v hv=>by simp[World.cell?,Pl.at,E,F i v hv],T,K.size,by simp[World.shape?,E],J⟩
 ·rw[e]at h3;obtain⟨K,U,fr,vs,rfl,J,H,F,_⟩:=h3;exact⟨vs,H,fun i v hv=>by simp[World.cell?,Pl.at,E,F i v hv],U,K.size,by simp[World.shape?,E],J⟩
theorem Tp(k:Ob β h w){n:Po}{off len:Nat}{r:List A}(a:cellsOf h n off len=some r){p:Pl}(c:β n=some p):
  r.length=len/\∃vs,Vs β r=some vs/\∀j v,vs[j]?=some v->w.cell? ((p.at off).add j)=some v:=by
 obtain⟨b,e,a⟩:=Qc a;obtain⟨l,d,a⟩:=Qc a;obtain⟨vs,m,i,_⟩:=k.cell e d c;obtain⟨g,f⟩:=OM a;refine⟨by grind,(vs.drop off).take len,by grind[P3,Fh],fun j v hv=>?_⟩
 grind[Pl.FI]
theorem cR(k:Ob β h w){T:TypeId}{n:Po}{off:Nat}{a:A}(d:(QDG P T).f h n off=some a){p:Pl}(e:β n=some p):
  ∃v,V β a=some v/\(loadVar T (p.at off)).run P w = .ok v w:=by
 unfold QDG at d;split at d
 ·rename_i sz H y;obtain⟨r,h3,d⟩:=Qc (show bd _ (fun l=>some _)=some a from d);cases aa d;obtain⟨m,vs,i,g⟩:=Tp k h3 e;obtain⟨j,K,J⟩:=H7 y;refine⟨.agg vs.toArray,by unfold V;simp_all,?_⟩;have t:=run_loadCells_list (P:=P) w _ vs g;rw[Vj i,m]at t;have L:(sizeOf T).run P w = .ok sz w:=by simp_all[sizeOf,typeInfo]
  simp_all[loadVar,ai,yD,af,if_true,aw]
 ·obtain⟨b,h3,d⟩:=Qc (show bd (h.get n) (fun b=>bd b.o.D fun c=>yK off c)=some a from d);obtain⟨l,x,d⟩:=Qc d;rw[ON]at d;obtain⟨vs,q,F,_⟩:=k.cell h3 x e;obtain⟨v,E,z⟩:=LF q d;simp_all[loadVar,yD]
 trivial
def Me1(P:Program)(β:Be)(w:World)(o:Op)(ρ:Operand->Value)(a:A):Prop:=∃v,V β a=some v/\∀d ty pos aft gd,(execOp ρ ⟨d,o,ty,pos,aft,gd⟩).run P w = .ok (.value v) w
theorem yU{kt:TypeId}{c:TypeDesc}(m:P.underlying kt=some c)(hd:(∃k,c = .int k)\/c = .string){key:A}{d:Value}(hk:V β key=some d):∀ {es:List _} {ents:List _} {i:Nat} {r:Option _},
  vR (eq1 P kt).f key es i=some r->En β es ents->∃r',fD c d ents i=some r'/\(r=none/\r'=none\/∃j a v,r=some (j,a)/\r'=some (j,v)/\V β a=some v)
 |[],[],i,r,h,_=>by cases aa h;exact⟨none,rfl,.inl ⟨rfl,rfl⟩⟩
 |(k,v,b)::es,e::ents,i,r,h,⟨o,z,h3,w⟩=>by
  obtain⟨t,g1,h⟩:=Qc (show bd _ (fun t=>cn t _ _)=some r from h);have g:fC c d e.key=some t:=by
   unfold eq1 at g1;rw[m]at g1;rcases hd with ⟨y,rfl⟩ | rfl
   ·replace g1:eqIn key k=some t:=g1;unfold eqIn at g1;split at g1
    ·rw[ZX]at g1;split at g1
     ·rename_i g;cases aa g1;rw[Fw hk,Fw o,Y2 g,eqI_eq];simp[fC]
     trivial
    trivial
   ·replace g1:eqSt key k=some t:=g1;unfold eqSt at g1;split at g1
    ·cases aa g1;obtain⟨q,rfl⟩:=uS hk;obtain⟨p,x⟩:=uS o;rw[x,<-QCi q p];rfl
    trivial
  unfold fD;rw[g];cases t with
  |true=>cases aa (show some _=some r from h);grind
  |false=>exact yU m hd hk (show vR (eq1 P kt).f key es _=some r from h) w
 |[],_::_,_,_,_,h=>h.elim
 |_::_,[],_,_,_,h=>h.elim
theorem QDE{T:TypeId}{q:Bx _×TypeId}(h:QD6 P T=some q):∃kt dk,P.underlying T=some (.map kt q.2)/\P.underlying kt=some dk/\((∃k,dk = .int k)\/dk = .string)/\q.1=eq1 P kt:=by
 obtain⟨d,a,h⟩:=Qc h
 grind
theorem FE{kt:TypeId}{a:TypeDesc}(b:P.underlying kt=some a)(hd:(∃k,a = .int k)\/a = .string)(e:Bool)(v:Value):(fq e 10000 kt v).run P w = .ok () w:=by
 unfold fq;simp[ai,run_underlying b,af];rcases hd with ⟨k,rfl⟩ | rfl<;>rfl
theorem QGC{T:TypeId}{r:Option _}{b:Option _}{a:A}(h:QJO P T r=some a)
  (d:r=none/\b=none\/∃j a v,r=some (j,a)/\b=some (j,v)/\V β a=some v):∃v,V β a=some v/\r.isSome=b.isSome/\((b=none/\∀w,(zeroValue T).run P w = .ok v w)\/∃j,b=some (j,v)):=by
 rcases d with ⟨rfl,rfl⟩ | ⟨j,e,v,rfl,rfl,hv⟩
 ·obtain⟨i,g,h⟩:=Qc (show bd (P.info? T) (fun i=>bd _ fun v=>some _)=some a from h);obtain⟨c,f,h⟩:=Qc h;cases aa h;exact⟨c,QG4 β c,rfl,.inl ⟨rfl,fun w=>by simp_all[zeroValue,typeInfo]⟩⟩
 ·cases aa (show some e=some a from h)<;>simp_all
theorem QD8(hm:Ob β h w){T:TypeId}{x y:Operand}{ok:Bool}{g:Bx Me}{a:A}(hg:gv P c (.lookup T x y ok)=some g)(i:g.f st m h=some a)
  (U:∀z∈(Op.lookup T x y ok).operands,∀a,ev c z st m=some a->V β a=some (ρ z)):Me1 P β w (.lookup T x y ok) ρ a:=by
 unfold gv at hg;simp only at hg;split at hg
 ·cases hg
 ·rename_i q hq;obtain⟨kt,dk,u1,F,J,u4⟩:=QDE hq;obtain⟨eqf,et⟩:=q;subst u4;cases aa hg;obtain⟨a1,Y,i⟩:=Qc i;obtain⟨n,h2,i⟩:=Qc i;obtain⟨k,h3,i⟩:=Qc i;obtain⟨b,h4,i⟩:=Qc i;rw[A.QIz h2]at Y;obtain⟨p,hp,hx⟩:=V_m (U x (by simp[aj]) _ Y);have hy:=U y (by simp[aj]) _ h3;obtain⟨p',o,g1,g2,g3⟩:=hm n b h4;rw[hp]at g1;cases g1;split at i
  ·rename_i es ck e;obtain⟨r,h5,i⟩:=Qc i;obtain⟨v,h6,i⟩:=Qc i;cases aa i;rw[e]at g3;obtain⟨t,rfl,g4⟩:=g3;obtain⟨H,k1,k2⟩:=yU F J hy h5 g4;obtain⟨E,L,k4,K⟩:=QGC h6 k2;have X:(fH T (ρ x) (ρ y) ok).run P w = .ok (if ok then .tuple #[E,.bool H.isSome]else E) w:=by
    unfold fH;have e2:(getObj p.ZH).run P w = .ok (.map t ck) w:=by grind[getObj,bI]
    have e3:(er kt (ρ y) t.toList).run P w = .ok H w:=by
     unfold er;simp only[ai,run_underlying F,af,k1];rfl
    simp only[ai,run_underlying u1,af,hx,e2,FE F J,e3,aw];rcases K with ⟨rfl,K⟩ | ⟨j,rfl⟩
    all_goals simp_all
   refine⟨if ok then .tuple #[E,.bool H.isSome]else E,?_,fun d ty pos aft gd=>?_⟩
   ·rw[ZX];cases ok with
    |true =>
     have:=Vr L (Vr (a:=.b r.isSome) rfl (show Vs β []=some []from rfl));simp only[if_true];rw[<-k4];unfold V;simp_all
    |false=>exact L
   ·simp only[execOp,ai];simp_all
  trivial
theorem QKl(hm:Ob β h w){args:Array _}{U:Array _}{K:List A}{x a:A}(hx:K=[x])(g:(QIS P U).f h x=some a)(hv:Vs β K=some (args.toList.map ρ)):Me1 P β w (.call ⟨.builtin .len,args,U⟩) ρ a:=by
 subst hx;obtain⟨v1,r1,g1,g2,J⟩:=XY hv;unfold QIS at g;split at g
 ·rename_i j;obtain⟨X,ht,j⟩:=Qc j;obtain⟨l,i,g⟩:=Qc (show bd x.S (fun l=>some _)=some a from g);cases aa g;rw[A.QCR i]at g1;obtain⟨_,rfl⟩:=uS g1;refine⟨_,rfl,fun d L E H gd=>?_⟩;rw[RD J];simp_all[builtin,eO,run_underlying,goInt,V3]
 ·rename_i e j;obtain⟨X,ht,j⟩:=Qc j;obtain⟨k,i,g⟩:=Qc (show bd _ (fun k=>some _)=some a from g);cases aa g;have:∃b c,v1 = .slice b k c:=by
   unfold QGH at i;split at i
   ·cases aa i;rw[uE g1];simp
   ·cases aa i;obtain⟨p,_,rfl⟩:=V_l g1;simp
   ·cases aa i;obtain⟨p,_,_,rfl⟩:=V_o g1;simp
   trivial
  obtain⟨b,c,rfl⟩:=this;refine⟨_,rfl,fun d L E H gd=>?_⟩;rw[RD J];simp_all[builtin,eO,run_underlying,goInt]
 ·rename_i kt e j;obtain⟨X,ht,j⟩:=Qc j;obtain⟨q,i,g⟩:=Qc (show bd x.M (fun q=>bd (h.get q) fun b=>(match b.o with | .m t _=>some _ | _=>none))=some a from g);obtain⟨b,h2,g⟩:=Qc g;rw[A.QIz i]at g1;obtain⟨p,hp,rfl⟩:=V_m g1;obtain⟨p',o,k1,k2,Y⟩:=hm q b h2;rw[hp]at k1;cases k1;split at g
  ·rename_i t ck e;cases aa g;rw[e]at Y;obtain⟨F,rfl,k4⟩:=Y;have hl:t.length=F.size:=by
    have:∀ {t:List _} {z:List _},En β t z->t.length=z.length:=by
     intro t
     induction t with
     |nil=>intro z h;cases z with
      |nil=>rfl
      |cons _ _=>trivial
     |cons x t ih=>intro z h;cases z with
      |nil=>trivial
      |cons y z=>simp[ih h.2.2.2]
    grind
   refine⟨_,rfl,fun d L E H gd=>?_⟩;rw[RD J];simp_all[builtin,eO,run_underlying,goInt,getObj,bI]
  trivial
 trivial
end
end Go.Ev
namespace Go.Ev
open Go.RowKit
section
variable{P:Program}{β:Be}{c:Lc}{st:List A}{m:Tr A}{ρ:Operand->Value}{h:Tr B}{w:World}
theorem QDL{e:Nat}:∀ {es:List _} {ents:List _} {y:A×A×Nat},En β es ents->es.find? (fun x=>ao x.2.2 e)=some y->∃en,ents.find? (fun x=>x.born==e)=some en/\V β y.1=some en.key/\V β y.2.1=some en.val
 |[],[],y,_,h=>by cases h
 |(k,v,b)::es,en::ents,y,⟨f,d,h3,c⟩,h=>by
  rw[List.find?_cons]at h ⊢;have hb:(en.born==e)=ao b e:=by
   grind[ao,ah,beq_eq_false_iff_ne,bz]
  rw[hb];cases a:ao b e with
  |true=>grind
  |false=>rw[a]at h;exact QDL c h
 |[],_::_,_,h,_=>h.elim
 |_::_,[],_,h,_=>h.elim
theorem QGZ(hm:Ob β h w){x:Operand}{g:Bx Me}{a:A}(hg:gv P c (.entry x)=some g)(i:g.f st m h=some a)
  (hρ:∀z∈(Op.entry x).operands,∀a,ev c z st m=some a->V β a=some (ρ z)):Me1 P β w (.entry x) ρ a:=by
 cases aa hg;obtain⟨a1,H,i⟩:=Qc i;obtain⟨q,h2,i⟩:=Qc i;obtain⟨J,i⟩:=Q9 i;obtain⟨b,h3,i⟩:=Qc i;have J:=ah J;rw[A.jC h2]at H;obtain⟨p,hp,hx⟩:=vB (hρ x (by simp[aj]) _ H);obtain⟨p',o,F,k2,E⟩:=hm q.1 b h3;rw[hp]at F;cases F;split at i
 ·rename_i n j e k t eb;rw[eb]at E;obtain⟨hb0,pq,g1,rfl⟩:=E;obtain⟨d,h4,i⟩:=Qc i;obtain⟨p2,o2,L,g3,K⟩:=hm n d h4;rw[g1]at L;cases L;split at i
  ·rename_i es ck ed;obtain⟨h5,i⟩:=Q9 i;obtain⟨y,h6,i⟩:=Qc i;cases aa i;rw[ed]at K;obtain⟨U,rfl,g5⟩:=K;obtain⟨X,f1,f2,f3⟩:=QDL g5 h6;have eat:p.at q.2=⟨p.ZH,0,none⟩:=by grind[Pl.at]
   refine⟨.tuple #[X.key,X.val],by unfold V;rw[Vr f2 (Vr f3 rfl)];rfl,fun d ty Y aft gd=>?_⟩;simp_all[execOp,Instr.entry,getObj,bI]
  trivial
 trivial
def QDV(c:Nat):Value:=.int .u8 (c:Int)
theorem qF:∀ {l:List A} {bs:List Nat} {vs:List Value},QCE l=some bs->Vs β l=some vs->Uz bs=true/\vs=bs.map QDV
 |[],bs,vs,h,k=>by cases aa h;cases aa k;trivial
 |a::l,bs,vs,h,k=>by
  obtain⟨v,r,f,e,rfl⟩:=XY k;obtain⟨c,b,h⟩:=Qc (show bd (byU a) (fun c=>gu _ _)=some bs from h);obtain⟨i,h⟩:=Q9 h;obtain⟨q,d,h⟩:=Qc h;cases aa h;obtain⟨g,rfl⟩:=qF d e;refine⟨by unfold Uz at *;simp_all,?_⟩;unfold byU at b;split at b
  ·cases aa b;rw[bQ,Fw f];rfl
  trivial
theorem fold_push:∀(bs:List Nat) (acc:ByteArray),(bs.map fun(c:Nat)=>(c:Int)).foldl (fun r n=>r.push (aD n.toNat)) acc=⟨acc.data++(bs.map aD).toArray⟩
 |[],acc=>by simp
 |b::bs,acc=>by
  rw[bQ,fm,fold_push bs];simp
theorem yh(hm:Ob β h w){sz:Nat}{x:A}{k:Nat}{vs:List A}{c:Value}(e:QGH x=some k)(b:elems sz h x=some vs)(hx:V β x=some c):
  (vs=[]/\c = .slice none 0 0/\k=0)\/∃a cap us,c = .slice (some a) k cap/\Vs β vs=some us/\vs.length=k*sz/\∀j v,us[j]?=some v->w.cell? (a.add j)=some v:=by
 unfold elems at b;split at b
 ·cases aa b;cases aa (show some 0=some k from e);exact .inl ⟨rfl,uE hx,rfl⟩
 ·cases aa (show some _=some k from e);obtain⟨p,d,rfl⟩:=V_l hx;obtain⟨g1,us,g,f⟩:=Tp hm b d;simp_all
 ·cases aa (show some _=some k from e);obtain⟨p,d,_,rfl⟩:=V_o hx;obtain⟨g1,us,g,f⟩:=Tp hm b d;simp_all
 trivial
theorem QIg(hm:Ob β h w){s d:TypeId}{x a:A}{vx:Value}(g:(QGd P s d).f h x=some a)(hx:V β x=some vx):∃v,V β a=some v/\(convert s d vx).run P w = .ok v w:=by
 unfold QGd at g;split at g
 ·rename_i sd k m i;obtain⟨q,h3,g⟩:=Qc (show bd x.I (fun q=>some _)=some a from g);cases aa g;rw[A.QMw h3]at hx;rw[Fw hx];refine⟨_,rfl,?_⟩;rw[jg];simp only[convert,ai,run_underlying m,run_underlying i,af];rfl
 ·rename_i e m i;split at g
  ·rename_i hu;obtain⟨k,h3,g⟩:=Qc (show bd _ (fun k=>bd _ fun l=>gu _ _)=some a from g);obtain⟨l,F,g⟩:=Qc g;obtain⟨H,g⟩:=Q9 g;obtain⟨bs,E,g⟩:=Qc g;cases aa g;rcases yh hm h3 F hx with ⟨rfl,rfl,rfl⟩ | ⟨ad,cap,us,rfl,g1,g2,Y⟩
   ·cases aa (show some []=some bs from E);refine⟨_,vW rfl,?_⟩;simp[convert,run_underlying m,run_underlying i,run_underlying hu,Conv.bytesToString];rfl
   ·obtain⟨y,rfl⟩:=qF E g1;refine⟨_,vW y,?_⟩;have L:=run_loadCells_list (P:=P) w ad _ Y;rw[eF]at L;have X:bs.length=k:=by have:=Vj g1;simp_all
    rw[X]at L;have hb:=run_bytesToString w ad k cap _ (by rw[List.map_map];exact L);rw[fold_push]at hb;simp only[convert,ai,run_underlying m,run_underlying i,run_underlying hu,af];rw[hb];simp[congr,bL,Hr]
  trivial
 ·rename_i m i;obtain⟨l,h3,g⟩:=Qc (show bd x.S (fun l=>some _)=some a from g);cases aa g;rw[A.QCR h3]at hx;obtain⟨k,rfl⟩:=uS hx;refine⟨_,vW k,?_⟩;simp only[convert,ai,run_underlying m,run_underlying i,af];rfl
 ·rename_i t m i;obtain⟨q,h3,g⟩:=Qc (show bd x.P (fun q=>bd (h.get q.1) fun b=>bd b.o.C fun c=>gu _ (gu ((P.info? t).any fun j=>j.size != 0) _))=some a from g);obtain⟨b,F,g⟩:=Qc g;obtain⟨cc,H,g⟩:=Qc g;obtain⟨E,g⟩:=Q9 g;obtain⟨h7,g⟩:=Q9 g;cases aa g;rw[A.jC h3]at hx;obtain⟨p,K,rfl⟩:=vB hx;obtain⟨p',o,y,J,z⟩:=hm q.1 b F;rw[K]at y;cases y;rw[O.QHT H]at z;obtain⟨cs,vs,rfl,g2,Y,g4,g5,g6⟩:=z;obtain⟨j,U,hjs⟩:=Option.any_eq_true .. |>.1 h7;refine⟨_,by rw[A.jC h3];exact hx,?_⟩;exact Lib.run_to_unsafe w _ m i U (by simp_all) (by simp[World.shape?,Pl.at,J];trivial) (by have:=ae E;show p.EW+q.2<cs.size;omega)
 ·rename_i t m i;obtain⟨q,h3,g⟩:=Qc (show bd x.P (fun q=>bd (h.get q.1) fun b=>bd b.o.C fun c=>gu _ (gu _ (gu (P.info? t).isSome _)))=some a from g);obtain⟨b,F,g⟩:=Qc g;obtain⟨cc,H,g⟩:=Qc g;obtain⟨E,g⟩:=Q9 g;obtain⟨h7,g⟩:=Q9 g;obtain⟨h8,g⟩:=Q9 g;cases aa g;rw[A.jC h3]at hx;obtain⟨p,K,rfl⟩:=vB hx;obtain⟨p',o,y,J,z⟩:=hm q.1 b F;rw[K]at y;cases y;rw[O.QHT H]at z;obtain⟨cs,vs,rfl,g2,Y,g4,g5,g6⟩:=z;obtain⟨e1,e2⟩:=g6.1 (by simp_all);obtain⟨j,U⟩:=Option.isSome_iff_exists.1 h8;refine⟨_,by rw[A.jC h3];exact hx,?_⟩;exact Lib.run_from_unsafe w _ m i U (by simp[World.shape?,Pl.at,J];trivial) (by
   show liesAt P _ cc.2.1 _ (p.EW+q.2) t 1=true;simp_all)
 trivial
theorem QJN(hm:Ob β h w){o:Op}{g:Bx Me}{a:A}(hg:gv P c o=some g)(b:g.f st m h=some a)
  (i:∀z∈o.operands,∀a,ev c z st m=some a->V β a=some (ρ z)):Me1 P β w o ρ a:=by
 have t:=hg;unfold gv at hg;split at hg
 ·rename_i T x;cases aa hg;obtain⟨Y,e,b⟩:=Qc b;obtain⟨q,U,b⟩:=Qc b;rw[A.jC U]at e;obtain⟨p,L,hx⟩:=vB (i x (by simp[aj]) _ e);obtain⟨v,k,F⟩:=cR hm b L;refine⟨v,k,fun d J j E X=>?_⟩;simp[execOp,hx,Instr.loadAt,bJ,F]
 ·grind[QD8]
 ·exact QGZ hm t b i
 ·rename_i args K;cases aa hg;obtain⟨H,e,b⟩:=Qc b;have hv:=Tb e (fun x hx=>i x (by grind[aj,aQ]));cases H with
  |nil=>cases b
  |cons x r=>cases r with
   |nil=>exact QKl hm rfl (show(QIS P K).f h x=some a from b) hv
   |cons y r=>cases b
 ·rename_i s d x;split at hg
  ·cases hg
  ·cases aa hg;obtain⟨Y,e,b⟩:=Qc b;obtain⟨v,k,F⟩:=QIg hm b (i x (by simp[aj]) _ e);refine⟨v,k,fun d J j E X=>?_⟩;simp[execOp,ai];simp_all
 trivial
end
end Go.Ev
namespace Go.Ev
open Go.RowKit
theorem Po.eq_refl(p:Po):Po.eq p p=true:=by
 induction p with
 |h=>rfl
 |o p ih=>exact ih
 |i p ih=>exact ih
noncomputable def kf (β:Be) (n:Po) (p:Pl):Be:=fun q=>if Po.eq q n then some p else β q
theorem VP(β:Be)(n:Po)(p:Pl):kf β n p n=some p:=by unfold kf;rw[Po.eq_refl];rfl
theorem BR(β:Be){n q:Po}(p:Pl)(h:q≠n):kf β n p q=β q:=by
 unfold kf;rw[if_neg]<;>grind[Po.eq_eq]
theorem QAm{β:Be}{n:Po}(p:Pl)(h:β n=none):Be.le β (kf β n p):=fun q x hx=>by
 grind[BR]
section
variable{P:Program}{β:Be}{h:Tr B}{n:Po}{w w':World}
structure jD(w w':World):Prop where
 os:w'.os=w.os
 tape:w'.tape=w.tape
 out:w'.output=w.output
 drawn:True
theorem jD.refl(w:World):jD w w:=⟨rfl,rfl,rfl,trivial⟩
theorem Mv.new(k:Ok β h n w)(lv X:Nat){x:O}{obj:Obj}{sz:Nat}(hll:X<=lv)(hw:w'.heap=w.heap.push obj)(Y:jD w w')(ho:Oo β ⟨w.heap.size,0,sz⟩ obj x):
  Mv lv β h n w (kf β n ⟨w.heap.size,0,sz⟩) (h.put (some ⟨x,X⟩) n) n.s w':=by
 have J:=QAm ⟨w.heap.size,0,sz⟩ (k.top n (ar _));have E:∀q b,(h.put (some ⟨x,X⟩) n).get q=some b->(q=n/\b=⟨x,X⟩)\/(q≠n/\h.get q=some b):=fun q b hb=>by
  grind[Tr.K4,aa]
 have L:∀q b p,q≠n->h.get q=some b->kf β n ⟨w.heap.size,0,sz⟩ q=some p->β q=some p/\p.ZH<w.heap.size:=fun q b p F hb L=>by
  rw[BR β _ F]at L;exact⟨L,k.lt hb L⟩
 refine⟨by simp[Po.n_s],fun q hq=>BR β _ (by grind),⟨fun q b hb=>?_,fun q q' b b' p p' hb H g g' e=>?_,fun q hq=>?_⟩,Y.os,Y.tape,Y.out,Y.drawn,by simp_all,fun b hb _=>?_,fun q c p hc g hlt=>?_,fun K hK hh q c hc=>?_⟩
 ·rcases E q b hb with ⟨rfl,rfl⟩ | ⟨F,hb⟩
  ·exact⟨_,obj,VP _ _ _,by simp_all,ho.le J⟩
  ·obtain⟨p,o,k1,k2,k3⟩:=k.ob q b hb;exact⟨p,o,J q p k1,by grind,k3.le J⟩
 ·rcases E q b hb with ⟨rfl,rfl⟩ | ⟨F,hb⟩<;>rcases E q' b' H with ⟨rfl,rfl⟩ | ⟨U,H⟩
  ·rfl
  ·grind[VP]
  ·grind[VP]
  ·exact k.inj q q' b b' p p' hb H (L q b p F hb g).1 (L q' b' p' U H g').1 e
 ·rw[Po.n_s]at hq;rw[BR β _ (by grind)];exact k.top q (by omega)
 ·grind
 ·rcases E q c hc with ⟨rfl,rfl⟩ | ⟨F,hb⟩<;>grind[VP,id]
 grind
theorem Mv.put(k:Ok β h n w){lv:Nat}{q:Po}{b:B}{p:Pl}(hq:h.get q=some b)(hp:β q=some p)(hlv:lv<=b.lv){x:O}{obj:Obj}(hw:w'.heap=w.heap.setIfInBounds p.ZH obj)(U:jD w w')(ho:Oo β p obj x):
  Mv lv β h n w β (h.put (some ⟨x,b.lv⟩) q) n w':=by
 have hlt:=k.lt hq hp;have H:∀E F,(h.put (some ⟨x,b.lv⟩) q).get E=some F->(E=q/\F=⟨x,b.lv⟩)\/(E≠q/\h.get E=some F):=fun E F hb=>by
  grind[Tr.K4,aa]
 have J:∀E F,(h.put (some ⟨x,b.lv⟩) q).get E=some F->∃b0,h.get E=some b0/\b0.lv=F.lv:=fun E F hb=>by
  grind
 refine⟨ar _,fun _ _=>rfl,⟨fun E F hb=>?_,fun q1 q2 b1 b2 p1 p2 L hb2 g1 g2 e=>?_,k.top⟩,U.os,U.tape,U.out,U.drawn,by simp_all,fun b1 L hh=>?_,fun E c X hc g hlt=>?_,fun K hK hh E c hc=>?_⟩
 ·rcases H E F hb with ⟨rfl,rfl⟩ | ⟨Y,hb⟩
  ·simp_all
  ·obtain⟨X,o,k1,k2,k3⟩:=k.ob E F hb;have hne2:p.ZH≠X.ZH:=fun e=>Y (k.inj E q F b X p hb hq k1 hp e.symm)<;>simp_all
 ·obtain⟨b1',e1,_⟩:=J q1 b1 L;obtain⟨b2',e2,_⟩:=J q2 b2 hb2;exact k.inj q1 q2 b1' b2' p1 p2 e1 e2 g1 g2 e
 all_goals grind
theorem Mv.drop(k:Ok β h n w){lv:Nat}(q:Po):Mv lv β h n w β (h.put none q) n w:=by
 have E:∀F H,(h.put none q).get F=some H->h.get F=some H:=fun F H hb=>by
  grind[Tr.K4]
 exact⟨ar _,fun _ _=>rfl,⟨fun F H hb=>k.ob F H (E F H hb),fun Y X b1 b2 p1 p2 U L=>k.inj Y X b1 b2 p1 p2 (E _ _ U) (E _ _ L),k.top⟩,rfl,rfl,rfl,trivial,ar _,fun _ _ _=>rfl,
  fun F c p' J g hlt=>⟨F,c,p',E _ _ J,g,rfl,id⟩,fun K _ hh q c J=>hh q c (E _ _ J)⟩
end
section
variable{P:Program}{β:Be}{c:Lc}{st:List A}{m:Tr A}{ρ:Operand->Value}{h:Tr B}{n:Po}{w:World}
theorem QGG{sz:Nat}:∀ {ps:List _} {pv:List _} {k:Nat} {cs:List A},lit sz ps k=some cs->pv.map (·.1)=ps.map (·.1)->Vs β (ps.map (·.2))=some (pv.map (·.2))->(∀p∈ps,∀u,p.2 = .k u->uY u=true) ->
  ∃vs,Vs β cs=some vs/\∀(cur:Array Value),k*sz+vs.length=cur.size->bK (fun i=>some (i*sz,sz)) cur pv=some (cur.toList.take (k*sz)++vs).toArray
 |[],pv,k,cs,h,g,f,_=>by
  cases aa h;cases pv with
  |nil=>exact⟨[],rfl,fun cur m=>by simp_all[bK,List.take_of_length_le]⟩
  |cons _ _=>grind
 |p::ps,pv,k,cs,h,g,f,hk=>by
  obtain⟨g1,h⟩:=Q9 (show gu _ _=some cs from h);obtain⟨j,h⟩:=Q9 h;obtain⟨l,F,h⟩:=Qc h;cases aa h;have g1:=ah g1;have j:=ah j;cases pv with
  |nil=>grind
  |cons a pv =>
   simp only[bQ,List.cons.injEq]at g;rw[bQ,bQ]at f;obtain⟨v,J,w,t,d⟩:=XY f;injection d with d k4;subst d;subst k4;have b:=OZ w (hk p (by simp));have y:a.2.cells.size=sz:=by rw[<-j,<-Vj b];simp
   obtain⟨vs,q,o⟩:=QGG F g.2 t fun x hx=>hk x (by grind);refine⟨a.2.cells.toList++vs,Tv b q,fun cur m=>?_⟩;rw[aF]at m;have E:a.2.cells.toList.length=sz:=by omega
   have c:aA k*sz=k*sz+sz:=by grind
   unfold bK;have H:a.1=k:=by omega
   simp only[H];rw[if_neg (by grind)];have e:=Cz a.2.cells.toList 0 (k*sz) cur (by omega);have K:a.2.cells.zipIdx.foldl (fun cs (x:Value×Nat)=>cs.setIfInBounds (k*sz+x.2) x.1) cur=(a.2.cells.toList.zipIdx 0).foldl (fun cs (x:Value×Nat)=>cs.setIfInBounds (k*sz+x.2) x.1) cur:=by
    rw[<-e8];simp
   have h3:=o (cur.toList.take (k*sz)++a.2.cells.toList++cur.toList.drop (k*sz+sz)).toArray (by rw[c]<;>grind);have z:(cur.toList.take (k*sz)++a.2.cells.toList).length=k*sz+sz:=by
    rw[aF,E,bT];simp;omega
   grind
theorem QCx(z:List A):∀n,(rep z n).length=n*z.length
 |0=>by show 0=_;simp
 |n+1=>by
  show(z++rep z n).length=_;rw[aF,QCx z n,fN];omega
theorem QA7{z:List A}{vs:List Value}(h:Vs β z=some vs):∀n,∃us,Vs β (rep z n)=some us/\us.length=n*vs.length/\∀i,i<n*vs.length->us[i]?=vs[i%vs.length]?
 |0=>⟨[],rfl,by simp,fun i a=>by omega⟩
 |n+1=>by
  obtain⟨us,c,d,h3⟩:=QA7 h n;refine⟨vs++us,Tv h c,by grind,fun i a=>?_⟩;rw[fN]at a;by_cases b:i<vs.length
  ·grind[bj]
  ·rw[List.getElem?_append_right (by omega),h3 _ (by omega)]<;>simp_all[congr,Nat.mod_eq_sub_mod]
def Ne1(P:Program)(β:Be)(h:Tr B)(n:Po)(w:World)(o:Op)(ρ:Operand->Value)(q:O×(Po->A)):Prop :=
 ∃obj sz v,(∀d ty pos aft gd,(execOp ρ ⟨d,o,ty,pos,aft,gd⟩).run P w = .ok (.value v) (w.alloc obj))/\Oo β ⟨w.heap.size,0,sz⟩ obj q.1/\∀β':Be,β' n=some ⟨w.heap.size,0,sz⟩->V β' (q.2 n)=some v
theorem pj{vs:List Value}{l:List A}{T:TypeId}(a:Vs β l=some vs)(b:Nat):Oo β ⟨b,0,vs.length⟩ (.cells vs.toArray T) (.c l T false) :=
 ⟨vs.toArray,vs,rfl,by simp,a,fun i v hv=>by simp_all,by simp[Vj a],fun _=>⟨rfl,(Vj a).symm⟩,rfl⟩
theorem QJL{o:Op}{g:Bx _}{q:O×(Po->A)}(hg:neD P c o=some g)(b:g.f st m=some q)
  (hρ:∀z∈o.operands,∀a,ev c z st m=some a->V β a=some (ρ z)):Ne1 P β h n w o ρ q:=by
 unfold neD at hg;split at hg
 ·rename_i T;cases aa hg;obtain⟨z,J,b⟩:=Qc b;cases aa b;obtain⟨i,v,Y,y,k3⟩:=RV J;refine⟨.cells v.cells T,v.cells.toList.length,.pointer (some ⟨w.heap.size,0,none⟩),fun d ty E H gd=>?_,?_,fun β' hb=>?_⟩
  ·have ez:(zeroValue T).run P w = .ok v w:=by simp_all[zeroValue,typeInfo]
   simp only[execOp,Instr.alloc,ai,ez,af,aw,newVar,newRow,run_newObj];rfl
  ·exact pj k3 _
  ·show(β' n).map _=_;rw[hb];rfl
 ·rename_i T x;cases aa hg;obtain⟨a,J,b⟩:=Qc b;obtain⟨h2,b⟩:=Q9 b;cases aa b;have hc:=OZ (hρ x (by simp[aj]) _ J) (A.QKB h2);refine⟨.cells (ρ x).cells T,(ρ x).cells.toList.length,.pointer (some ⟨w.heap.size,0,none⟩),fun d ty E H gd=>?_,?_,fun β' hb=>?_⟩
  ·rfl
  ·exact pj hc _
  ·show(β' n).map _=_;rw[hb];rfl
 ·rename_i T k ps;cases aa hg;obtain⟨t,J,b⟩:=Qc b;obtain⟨h0,b⟩:=Q9 b;obtain⟨l,h2,b⟩:=Qc b;obtain⟨h3,b⟩:=Q9 b;obtain⟨cs,h4,b⟩:=Qc b;obtain⟨h5,b⟩:=Q9 b;obtain⟨h6,b⟩:=Q9 b;cases aa b;obtain⟨p1,p2⟩:=zD h2 (fun p hp=>hρ p.2 (by simp only[aj,fg,fJ];grind));rw[az]at h3;obtain⟨vs,r1,r2⟩:=QGG (β:=β) (pv:=ps.toList.map fun p=>(p.1,ρ p.2)) h4 (by simp_all) (by simp_all) (fun p hp=>A.QKB (h3 p hp));obtain⟨z,hz⟩:=Option.isSome_iff_exists.1 h0;obtain⟨i,X,z1,z2,z3⟩:=RV (β:=β) hz;obtain⟨hu,j,g5,g6⟩:=Ue J;have h5:=ah h5;have h6:=ae h6;have hvl:=Vj r1;refine⟨.cells _ t.1,vs.length,.slice _ k k,fun d ty E H gd=>?_,pj r1 _,fun β' hb=>by show(β' n).map _=_;rw[hb];rfl⟩;have e:(ps.map fun(x:Nat×Operand)=>(x.1,ρ x.2))=(ps.toList.map fun p=>(p.1,ρ p.2)).toArray:=by grind
  have es:(sizeOf t.1).run P w = .ok t.2 w:=by simp_all[sizeOf,typeInfo]
  have ez:(zeroValue t.1).run P w = .ok X w:=by simp_all[zeroValue,typeInfo]
  have hn:¬k*t.2>2^24:=by omega
  have hf:∀zero:Array Value,bK (fun i=>some (i*t.2,t.2)) ((eT (k*t.2)).map (zero[·%zero.size]!)) (ps.toList.map fun p=>(p.1,ρ p.2)).toArray.toList=some vs.toArray:=fun zero=>by
   simp_all
  simp only[execOp,e,ai,Instr.buildSlice,run_underlying hu,af,es,if_neg hn,aw];by_cases h0':k*t.2=0
  ·simp only[if_pos h0',aw,af,hf,newRow,ai,run_newObj];rfl
  ·simp only[if_neg h0',ai,ez,aw,af,hf,newRow,run_newObj];rfl
 ·cases aa hg;cases aa b;refine⟨.map #[] 0,0,.map (some w.heap.size),fun d ty E H gd=>?_,⟨#[],rfl,trivial⟩,fun β' hb=>?_⟩
  ·rfl
  ·show(β' n).map _=_;simp_all
 ·rename_i T l k;cases aa hg;obtain⟨a1,J,b⟩:=Qc b;obtain⟨Y,h2,b⟩:=Qc b;obtain⟨a2,h3,b⟩:=Qc b;obtain⟨y,h4,b⟩:=Qc b;obtain⟨t,h5,b⟩:=Qc b;obtain⟨i,F,b⟩:=Qc b;obtain⟨U,b⟩:=Q9 b;obtain⟨z,h6,b⟩:=Qc b;obtain⟨h6b,b⟩:=Q9 b;obtain⟨h7,b⟩:=Q9 b;obtain⟨h8,b⟩:=Q9 b;cases aa b;obtain⟨hu,j,g5,g6⟩:=Ue h5;rw[F]at g5;cases g5;obtain⟨i',X,z1,z2,z3⟩:=RV h6;rw[F]at z1;cases z1;have U:=ae U;have h6b:=ah h6b;have h7:=ae h7;have h8:=ae h8;obtain⟨kk,e1⟩:=A.QHE h2;obtain⟨kk2,e2⟩:=A.QHE h4;rw[e1]at J;rw[e2]at h3;have hl:=Fw (hρ l (by simp[aj]) _ J);have hc:=Fw (hρ k (by simp[aj]) _ h3);obtain⟨us,r1,r2,r3⟩:=QA7 z3 y;have hzl:X.cells.toList.length=t.2:=by grind[Vj]
  refine⟨.cells _ t.1,us.length,.slice _ Y y,fun d ty E H gd=>?_,pj r1 _,fun β' hb=>by show(β' n).map _=_;rw[hb];rfl⟩;have w1:IntKind.i64.wrap (bN Y)=(Y:Int):=bY _ (by grind);have w2:IntKind.i64.wrap (bN y)=(y:Int):=bY _ (by grind);have hb1:=eL U h8;have hb2:y*i.bytes<=16777216000:=by grind
  have e3:((eT (y*i.size)).map (X.cells[·%X.cells.size]!))=us.toArray:=by
   grind
  have ez:∀w,(zeroValue t.1).run P w = .ok X w:=fun w=>by simp_all[zeroValue,typeInfo]
  have es:∀w,(sizeOf t.1).run P w = .ok i.size w:=fun w=>by simp[sizeOf,typeInfo,F]
  have ei:∀w,(typeInfo t.1).run P w = .ok i w:=fun w=>by simp[typeInfo,F]
  have L:((decide ((y:Int)<0)||decide ((i.bytes:Int)*(y:Int)>2^48))||decide ((Y:Int)<0)||decide ((Y:Int)>(y:Int)))=false:=by
   grind
  have K:¬(y*i.bytes>roomBytes):=by grind[roomBytes]
  simp only[execOp,hl,hc,Instr.makeSlice,ai,run_underlying hu,af,asInt,asIntOf,aw,ei,w1,w2,L,au,if_false,askRoom,Int.toNat_natCast,if_neg K,es];by_cases h0:y*i.size=0
  ·simp only[if_pos h0,aw,af,newRow,ai,run_newObj];have:us=[]:=by simp_all
   subst this;have hr:eT 0=#[]:=by rfl
   have hm:∀f:Nat->Value,Array.map f #[]=#[]:=fun f=>by simp
   rw[h0,hr,hm];rfl
  ·simp only[if_neg h0,ai,ez,aw,af,newRow,run_newObj,e3];rfl
 trivial
end
end Go.Ev
namespace Go.Ev
open Go.RowKit
theorem xG{w:World}{g:Nat}{old a:Array Value}{t:TypeId}{fr:Nat×Nat}(hg:w.heap[g]?=some (.cells old t fr)):(w.setRow g a).heap=w.heap.setIfInBounds g (.cells a t fr):=by
 apply Array.ext_getElem?;intro k;by_cases e:g=k
 ·grind[setRow_heap]
 simp_all[setRow_other,Ne.symm]
theorem QJ9{a:A}(h:a.one=true){β:Be}{v:Value}(hv:V β a=some v):v.oneCell'=true:=by
 cases a with
 |g _=>cases h
 |t _=>cases h
 |k u=>rw[uE hv];trivial
 |i _ _=>rw[Fw hv];rfl
 |b _=>rw[V_b hv];rfl
 |s _=>obtain⟨_,rfl⟩:=uS hv;rfl
 |p _ _=>obtain⟨_,_,rfl⟩:=vB hv;rfl
 |l _ _ _ _=>obtain⟨_,_,rfl⟩:=V_l hv;rfl
 |o _ _ _ _=>obtain⟨_,_,_,rfl⟩:=V_o hv;rfl
 |m _=>obtain⟨_,_,rfl⟩:=V_m hv;rfl
 |f _ _=>obtain⟨_,_,rfl⟩:=V_f hv;rfl
 |y _=>obtain⟨_,_,rfl⟩:=V_y hv;rfl
 |xi T b =>
  obtain⟨_,_,rfl⟩:=Option.map_eq_some_iff.1 hv;rfl
theorem jK{β:Be}:∀ {l:List A} {vs:List Value},l.all A.one=true->Vs β l=some vs->∀v∈vs,v.oneCell'=true
 |[],vs,_,h,v,hv=>by cases aa h;cases hv
 |a::l,vs,b,h,v,hv=>by
  obtain⟨u,r,d,c,rfl⟩:=XY h;rw[bB,aq]at b;rcases List.mem_cons.1 hv with rfl | hv
  ·grind[QJ9]
  ·exact jK b.2 c v hv
section
variable{P:Program}{β:Be}{h:Tr B}{n:Po}{w:World}
theorem La(k:Ok β h n w){lv:Nat}{q:Po}{off:Nat}{vs:List A}{z:Tr B}{p:Pl}{us:List Value}(a:ID lv h q off vs=some z)(x:β q=some p)(hv:Vs β vs=some us):
  ∃w',(storeCells (p.at off) us).run P w = .ok () w'/\Mv lv β h n w β z n w':=by
 obtain⟨b,y,a⟩:=Qc a;obtain⟨X,a⟩:=Q9 a;obtain⟨h3,a⟩:=Q9 a;obtain⟨c,U,a⟩:=Qc a;obtain⟨l,L,a⟩:=Qc a;cases aa a;obtain⟨p',o,t,m,j⟩:=k.ob q b y;rw[x]at t;cases t;have K:=O.QHT U;rw[K]at j;obtain⟨cs,e,rfl,g2,g3,g4,g5,g6,Y⟩:=j;obtain⟨e1,e2⟩:=xx L;have H:=Vj hv;have F:=Vj g3;have f:=run_storeCells_at (P:=P) p.ZH (p.EW+off) c.2.1 us 0 cs w m (by omega) (jK h3 hv);refine⟨_,f,?_⟩;refine Mv.put k y x (ae X) (xG m) ⟨rfl,rfl,rfl,trivial⟩ ?_;have g:Vs β l=some (e.take off++us++e.drop (off+us.length)):=by
  grind[Tv,P3,Fh]
 have J:l.length=c.1.length:=by grind
 refine⟨_,_,rfl,by grind,g,fun i v d=>?_,by omega,fun ho=>by simp_all,Y⟩;simp only[List.getElem?_toArray,eQ,List.getElem?_append,aF,bT,ee,List.getElem?_take,List.getElem?_drop]at d ⊢;have E:min off e.length=off:=by omega
 rw[E]at d;by_cases c1:i<off
 ·grind
 ·by_cases c2:i<off+us.length
  ·grind
  ·simp[c1,c2]at d;have:=g4 _ v d;rw[show off+us.length+(i-(off+us.length))=i by omega]at this
   grind
end
end Go.Ev
namespace Go.Ev
open Go.RowKit
section
variable{P:Program}{β:Be}{c:Lc}{st:List A}{m:Tr A}{ρ:Operand->Value}{h:Tr B}{n:Po}{w:World}{lv:Nat}
def Lo1(P:Program)(lv:Nat)(β:Be)(h:Tr B)(n:Po)(w:World)(o:Op)(ρ:Operand->Value)(r:R):Prop :=
 ∃β' v nx w',(∀d ty pos aft gd,(execOp ρ ⟨d,o,ty,pos,aft,gd⟩).run P w = .ok nx w')/\(nx = .value v\/(nx = .skip/\v=undef))/\V β' r.a=some v/\Mv lv β h n w β' r.h r.n w'
theorem QNh:V β u0=some undef:=rfl
theorem YM{a:A}{r:R}(e:rz a h n=some r):r.a=a/\r.h=h/\r.n=n:=by cases aa e<;>simp_all
theorem cQ(k:Ok β h n w){o:O}{mk:Po->A}{r:R}{obj:Obj}{sz:Nat}{w':World}(e:nw o mk lv h n=some r)(b:w'.heap=w.heap.push obj)(d:jD w w')(c:Oo β ⟨w.heap.size,0,sz⟩ obj o):
  r.a=mk n/\Mv lv β h n w (kf β n ⟨w.heap.size,0,sz⟩) r.h r.n w':=by
 obtain⟨g,f,e3⟩:=YM e;rw[f,e3];exact⟨g,Mv.new k lv lv (ar _) b d c⟩
theorem QGD(k:Ok β h n w){T:TypeId}{x y:Operand}{r:R}{ih:Ih}(g:(loD P c (.store T x y)).f ih lv st m h n=some r)
  (o:∀z∈(Op.store T x y).operands,∀a,ev c z st m=some a->V β a=some (ρ z)):Lo1 P lv β h n w (.store T x y) ρ r:=by
 obtain⟨a,F,g⟩:=Qc g;obtain⟨q,X,g⟩:=Qc g;obtain⟨v,h3,g⟩:=Qc g;obtain⟨sz,U,g⟩:=Qc g;obtain⟨h5,g⟩:=Q9 g;obtain⟨h',E,g⟩:=Qc g;obtain⟨Y,e2,e3⟩:=YM g;rw[A.jC X]at F;obtain⟨p,L,hx⟩:=vB (o x (by simp[aj]) _ F);have J:=o y (by simp[aj]) _ h3;obtain⟨j,g5,g6⟩:=H7 U;have hk:∀u,v = .k u->uY u=true:=fun u e=>by
  subst e;obtain⟨b,s1,s⟩:=Qc E;obtain⟨s2,s⟩:=Q9 s;obtain⟨i,s⟩:=Q9 s;rw[az]at i;exact i _ (by show A.k u∈[A.k u];simp)
 have t:=OZ J hk;obtain⟨w',k1,k2⟩:=La (P:=P) k E L t;have K:(ρ y).cells.size=sz:=by have:=Vj t<;>simp_all
 refine⟨β,undef,.skip,w',fun d ty H aft gd=>?_,.inr ⟨rfl,rfl⟩,by rw[Y];rfl,by simp_all⟩;simp_all[sizeOf,typeInfo,execOp,Instr.storeAt,bJ,storeVar]
theorem QAB{kt:TypeId}{d:TypeDesc}(g:P.underlying kt=some d)(hd:(∃k,d = .int k)\/d = .string){key:A}{c:Value}(hk:V β key=some c):∀ {es:List _} {ents:List _} {i j:Nat} {a:A},
  vR (eq1 P kt).f key es i=some (some (j,a))->En β es ents->∃q en,j=i+q/\ents[q]?=some en/\en.key=c/\((∃k n,c = .int k n)\/∃s,c = .string s)
 |[],[],i,j,a,h,_=>by cases aa h
 |(k,v,b)::es,e::ents,i,j,a,h,⟨p,y,h3,o⟩=>by
  obtain⟨t,g1,h⟩:=Qc (show bd _ (fun t=>cn t _ _)=some _ from h);cases t with
  |true =>
   cases aa (show some _=some _ from h);refine⟨0,e,rfl,rfl,?_⟩;unfold eq1 at g1;rw[g]at g1;rcases hd with ⟨x,rfl⟩ | rfl
   ·replace g1:eqIn key k=some true:=g1;unfold eqIn at g1;split at g1
    ·rw[ZX]at g1;split at g1
     ·rename_i m;have:=aa g1;rw[eqI_eq,beq_iff_eq]at this;have m:=Y2 m;rw[Fw hk,Fw p]<;>simp_all
     trivial
    trivial
   ·replace g1:eqSt key k=some true:=g1;unfold eqSt at g1;split at g1
    ·have:=eqL_eq (aa g1);obtain⟨w,rfl⟩:=uS hk<;>grind
    trivial
  |false =>
   obtain⟨q,en,E,z,e3⟩:=QAB g hd hk (show vR (eq1 P kt).f key es _=some _ from h) o;exact⟨q+1,en,by omega,by trivial,e3⟩
 |[],_::_,_,_,_,_,h=>h.elim
 |_::_,[],_,_,_,_,h=>h.elim
theorem QHM{v:A}{a:Value}(hv:V β v=some a):∀ {es:List _} {ents:List _} {q:Nat} {en:MapEntry},En β es ents->ents[q]?=some en->En β (QJu v q es) (ents.set q { en with val:=a })
 |(k,x,b)::es,e::ents,0,en,⟨f,d,h3,c⟩,h=>by
  cases aa h;trivial
 |(k,x,b)::es,e::ents,q+1,en,⟨f,d,h3,c⟩,h=>⟨f,d,h3,QHM hv c (by trivial)⟩
 |[],[],q,en,_,h=>by cases h
 |[],_::_,_,_,h,_=>h.elim
 |_::_,[],_,_,h,_=>h.elim
theorem QHN{k v:A}{b:Nat}{e:MapEntry}(c:V β k=some e.key)(a:V β v=some e.val)(h3:e.born=b):∀ {es:List _} {ents:List _},En β es ents->En β (es++[(k,v,b)]) (ents++[e])
 |[],[],_=>⟨c,a,h3,trivial⟩
 |_::_,_::_,⟨g1,g,f,d⟩=>⟨g1,g,f,QHN c a h3 d⟩
 |[],_::_,h=>h.elim
 |_::_,[],h=>h.elim
theorem ki{kt:TypeId}{a:TypeDesc}(hd:(∃k,a = .int k)\/a = .string){v:Value}(h:(∃k n,v = .int k n)\/∃s,v = .string s):fp 10000 v v=true:=by
 rcases h with ⟨k,n,rfl⟩ | ⟨s,rfl⟩
 ·simp[fp]
 ·show(s.data==s.data)=true;simp
theorem QKh(k:Ok β h n w){T:TypeId}{q:Bx _×TypeId}(hq:QD6 P T=some q){nm:Po}{key v:A}{p:Pl}{d i:Value}{r:R}(g:zc q.1.f lv h n nm key v=some r)(H:β nm=some p)(hk:V β key=some d)(hv:V β v=some i):
  ∃w',(bW T (.map (some p.ZH)) d i).run P w = .ok () w'/\r.a=u0/\Mv lv β h n w β r.h r.n w':=by
 obtain⟨kt,dk,u1,y,x,u4⟩:=QDE hq;rw[u4]at g;obtain⟨b,J,g⟩:=Qc g;obtain⟨L,g⟩:=Q9 g;obtain⟨p',o,g1,g2,U⟩:=k.ob nm b J;rw[H]at g1;cases g1;split at g
 ·rename_i es m e;obtain⟨rr,h3,g⟩:=Qc g;obtain⟨Y,X,e3⟩:=YM g;rw[e]at U;obtain⟨c,rfl,z⟩:=U;obtain⟨r',k1,k2⟩:=yU y x hk h3 z;have eg:∀w:World,w.heap[p.ZH]?=some (.map c m)->(getObj p.ZH).run P w = .ok (.map c m) w:=fun w hw=>by grind[getObj,bI]
  have ef:∀w,(er kt d c.toList).run P w = .ok r' w:=fun w=>by
   unfold er;simp only[ai,run_underlying y,af,k1];rfl
  have K:∀E:Obj,(setObj p.ZH E).run P w = .ok () { w with heap:=w.heap.setIfInBounds p.ZH E }:=fun E=>by grind[setObj,bI]
  rcases k2 with ⟨rfl,rfl⟩ | ⟨j,a',v',rfl,rfl,hv'⟩
  ·refine⟨{ w with heap:=w.heap.setIfInBounds p.ZH (.map (c.push { key:=d,val:=i,born:=m }) (m+1)) },?_,Y,?_⟩
   ·simp_all[bW,ai,run_underlying,af,FE]
   ·rw[X,e3];refine Mv.put k J H (ae L) rfl ⟨rfl,rfl,rfl,trivial⟩ ⟨_,rfl,?_⟩;simpa using QHN (e:={ key:=d,val:=i,born:=m }) hk hv rfl z
  ·obtain⟨q',en,j1,j2,j3,F⟩:=QAB y x hk h3 z;refine⟨{ w with heap:=w.heap.setIfInBounds p.ZH (.map (c.modify j fun e=>{ e with key:=d,val:=i }) m) },?_,Y,?_⟩
   ·have t:(((c[j]?).map (·.key)).getD d)=d:=by
     simp_all
    unfold bW;simp[ai,run_underlying u1,af,eg w g2,FE y x,ef,t];simp[Instr.keyThatStays,ki (kt:=kt) x F,if_true,aw,af,K]
   ·rw[X,e3];refine Mv.put k J H (ae L) rfl ⟨rfl,rfl,rfl,trivial⟩ ⟨_,rfl,?_⟩;have:=QHM hv z j2;have e5:(c.modify j fun e=>{ e with key:=d,val:=i }).toList=c.toList.set j { en with val:=i }:=by
     apply List.ext_getElem?
     grind
    simp_all
 trivial
end
end Go.Ev
namespace Go.Ev
open Go.RowKit
section
variable{P:Program}{β:Be}{h:Tr B}{n:Po}{w w':World}{lv:Nat}
theorem Mv.ren(k:Ok β h n w){q:Po}{b:B}{p:Pl}(hq:h.get q=some b)(hp:β q=some p)(hlv:lv<=b.lv){x:O}{obj:Obj}(hw:w'.heap=w.heap.setIfInBounds p.ZH obj)(hn:jD w w')(ho:Oo β p obj x):
  Mv lv β h n w (kf β n p) ((h.put none q).put (some ⟨x,lv⟩) n) n.s w':=by
 have hlt:=k.lt hq hp;have hnn:=k.top n (ar _);have L:=QAm p hnn;have F:∀E H,((h.put none q).put (some ⟨x,lv⟩) n).get E=some H->(E=n/\H=⟨x,lv⟩)\/(E≠n/\E≠q/\h.get E=some H):=fun E H hb=>by
  grind[Tr.K4,aa]
 have hne2:∀E H J,E≠q->h.get E=some H->β E=some J->p.ZH≠J.ZH:=fun E H J hne hb hp' e=>hne (k.inj E q H b J p hb hq hp' hp e.symm);refine⟨by simp[Po.n_s],fun E U=>BR β _ (by grind),⟨fun E H hb=>?_,fun q1 q2 b1 b2 p1 p2 hb1 hb2 g1 g2 e=>?_,fun E U=>?_⟩,hn.os,hn.tape,hn.out,hn.drawn,by simp_all,fun b1 hb1 hh=>?_,fun E c J hc g hlt'=>?_,fun K hK hh E c hc=>?_⟩
 ·rcases F E H hb with ⟨rfl,rfl⟩ | ⟨h1,h2,hb⟩
  ·exact⟨p,obj,VP _ _ _,by simp_all,ho.le L⟩
  ·obtain⟨J,o,k1,k2,k3⟩:=k.ob E H hb;exact⟨J,o,L _ _ k1,by grind,k3.le L⟩
 ·rcases F q1 b1 hb1 with ⟨rfl,rfl⟩ | ⟨h1,h2,Y⟩<;>rcases F q2 b2 hb2 with ⟨rfl,rfl⟩ | ⟨h3,h4,X⟩
  ·rfl
  ·grind[VP,BR,absurd]
  ·grind[VP,BR,absurd]
  ·rw[BR β _ h1]at g1;rw[BR β _ h3]at g2;exact k.inj q1 q2 b1 b2 p1 p2 Y X g1 g2 e
 ·rw[Po.n_s]at U;rw[BR β _ (by grind)];exact k.top E (by omega)
 ·grind
 ·rcases F E c hc with ⟨rfl,rfl⟩ | ⟨h1,h2,hb⟩
  ·rw[VP]at g;grind
  ·rw[BR β _ h1]at g
   grind
 grind
theorem pC(k:Ok β h n w){T U e:TypeId}{i:TypeInfo}{z:Value}{sz a cap d:Nat}{m:Option Addr}{b news:List Value}{us vs:List A}{x:Value}{l:List A}(ht:P.underlying T=some (.slice e))(hi:P.info? e=some i)(hz:i.zero=some z)(y:z.cells.size=i.size)(E:i.size=sz)(h1:1<=sz)(hb:i.bytes<=1000)
  (H:(bH i.size a (.slice m a cap)).run P w.drew = .ok b.toArray w.drew) (hs:Src P i.size U x d news w) (hg:cap<a+d) (K:a+d<=lim) (hv:Vs β l=some (b++news)) (J:l.length=(a+d)*sz) :
  ∃v w' p,(∀ty,(aH #[T,U] ty #[.slice m a cap,x]).run P w = .ok v w')/\(∀β':Be,β' n=some p->V β' (.o n 0 (a+d) sz)=some v)/\Mv lv β h n w (kf β n p) (h.put (some ⟨.c l e true,lv⟩) n) n.s w'/\p.ZH=w.heap.size:=by
 subst E;unfold lim at K;have X:=growslice_fits (bytes:=i.bytes) hg (by have:=eL K hb;omega);have hgc:=grownCap_ge w (a+d) cap e;obtain⟨g,L⟩:∃g,g=grownCap w (a+d) cap e:=⟨_,rfl⟩;have F:(b++news).length=(a+d)*i.size:=by grind[Vj]
 obtain⟨f,t⟩:∃f,f=(b++news).toArray++bw z.cells (g-(a+d)):=⟨_,rfl⟩;have q:f.size=g*i.size:=by
  rw[t,fe,size_zeroCells,y,List.size_toArray,F,<-eZ];simp_all
 refine⟨.slice (some ⟨w.heap.size,0,none⟩) (a+d) g,w.drew.alloc (.cells f e),⟨w.heap.size,0,g*i.size⟩,fun ty=>?_,fun β' Y=>?_,?_,rfl⟩
 ·grind[run_append_grow_src]
 ·have hc:(g*i.size-(0+0))/i.size=g:=by grind[ff]
  have:=kM (off:=0) (len:=a+d) (sz:=i.size) Y (by simp_all);rw[this];rw[hc];rfl
 ·refine Mv.new k lv lv (ar _) rfl ⟨rfl,rfl,rfl,trivial⟩ ⟨f,_,rfl,q,hv,fun j v hj=>?_,?_,fun h=>(by cases h),rfl⟩
  all_goals grind
end
end Go.Ev
namespace Go.Ev
open Go.RowKit
section
variable{P:Program}{β:Be}{h:Tr B}{n:Po}{w w':World}{lv:Nat}
theorem El:∀ {l:List Nat},Uz l=true->Vs β (Fg l)=some (byteCells (Hr l))
 |[],_=>rfl
 |c::l,a=>by
  unfold Uz at a;rw[bB,aq]at a;have f:=ae a.1;have b:=El a.2;have e:byteCells (Hr (c::l))=Value.int .u8 (aD c).toNat::byteCells (Hr l):=by rfl
  have d:((aD c).toNat:Int)=bN c:=by
   have:(aD c).toNat=c:=by grind[bm,bj]
   grind
  rw[e];exact Vr (by show some _=_;rw[d]) b
theorem QJr(hm:Ob β h w){U:TypeId}{sz:Nat}{y:A}{s:Nat×List A}{d:Value}(b:(uk P U sz).f h y=some s)(c:V β y=some d)(q:s.2.length=s.1*sz)(t:s.2.all A.one=true):∃us,Vs β s.2=some us/\Src P sz U d s.1 us w:=by
 unfold uk at b;split at b
 ·rename_i e j;obtain⟨k,g1,b⟩:=Qc (show bd _ (fun k=>bd _ fun vs=>some (k,vs))=some s from b);obtain⟨vs,m,b⟩:=Qc b;cases aa b;rcases yh hm g1 m c with ⟨rfl,rfl,rfl⟩ | ⟨a,cap,us,rfl,g,p,o⟩
  ·exact⟨[],rfl,Src.ofNil w j 0⟩
  grind[Src.ofSlice,Vj,jK]
 ·rw[ZX]at b;split at b
  ·rename_i i;obtain⟨l,g1,b⟩:=Qc (show bd y.S (fun l=>some (l.length,Fg l))=some s from b);cases aa b;have i:=ah i;rw[A.QCR g1]at c;obtain⟨g,rfl⟩:=uS c;refine⟨_,El g,?_⟩
   grind[Src.ofString,Hr,V3]
  trivial
 trivial
theorem FL(t h j e:TypeId)(i:TypeInfo)(m:P.underlying t=some (.slice e))(o:P.info? e=some i){b off a c:Nat}{x:Value}{k:Nat}{news:List Value}(g:Src P i.size h x k news w)
  (d:a+k<=c) (f:(storeCells ⟨b,off+a*i.size,none⟩ news).run P w = .ok () w') :
  (aH #[t,h] j #[.slice (some ⟨b,off,none⟩) a c,x]).run P w = .ok (.slice (some ⟨b,off,none⟩) (a+k) c) w':=by
 rcases g.kind with ⟨p,hk⟩ | hk<;>simp[aH,run_underlying m,run_underlying hk,sizeOf,typeInfo,o,g.len,d,g.cells,Addr.add_lit,f]
theorem append_nil(t b c e:TypeId)(i:TypeInfo)(d:P.underlying t=some (.slice e))(f:P.info? e=some i){x:Value}{news:List Value}(a:Src P i.size b x 0 news w):
  (aH #[t,b] c #[.slice none 0 0,x]).run P w = .ok (.slice none 0 0) w:=by
 rcases a.kind with ⟨g,hk⟩ | hk<;>simp[aH,run_underlying d,run_underlying hk,sizeOf,typeInfo,f,a.len,a.cells]
theorem cy(hm:Ob β h w){q:Po}{off len sz cap:Nat}{us:List A}{p:Pl}(d:cellsOf h q off (len*sz)=some us)(b:β q=some p):
  ∃olds,Vs β us=some olds/\us.length=len*sz/\∀w':World,w'.heap=w.heap->(bH sz len (.slice (some (p.at off)) len cap)).run P w' = .ok olds.toArray w':=by
 obtain⟨g1,a,f,e⟩:=Tp hm d b;refine⟨a,f,g1,fun w' g=>run_firstCells_some w' sz len _ len cap a (by grind[Vj]) fun j u c=>?_⟩;have:=e j u c;unfold World.cell? at this ⊢;simp_all
theorem QCK(k:Ok β h n w){T U:TypeId}{x:A}{vx vy:Value}{r:R}{q:TypeId×Nat}{i:TypeInfo}{z:Value}{s:Nat×List A}{us:List Value}(L:P.underlying T=some (.slice q.1))(y:P.info? q.1=some i)(g:i.size=q.2)(hb:i.bytes<=1000)(X:1<=q.2)(K:i.zero=some z)(J:z.cells.size=i.size)
  (g2:s.2.length=s.1*q.2) (g3:s.2.all A.one=true) (s1:Vs β s.2=some us) (hul:us.length=s.2.length) (m:Src P q.2 U vy s.1 us w) (f:p9 lv q.2 q.1 s.1 s.2 h n x=some r) (hx:V β x=some vx) :
  ∃β' v w',(∀ty,(aH #[T,U] ty #[vx,vy]).run P w = .ok v w')/\V β' r.a=some v/\Mv lv β h n w β' r.h r.n w':=by
 unfold p9 at f;rw[<-g]at m;split at f
 ·cases uE hx;rw[cond_eq_ite]at f;split at f
  ·rename_i h0;have h0:=ah h0;obtain⟨H,E,e3⟩:=YM f;rw[h0]at m;exact⟨β,_,w,fun ty=>append_nil T U ty q.1 i L y m,by simp_all,by grind[Mv.refl]⟩
  ·rename_i h0;obtain⟨hl,f⟩:=Q9 f;have hl:=ae hl;have h0:s.1≠0:=fun e=>h0 (by rw[e];rfl);obtain⟨v,w',p,r1,r2,r3,_⟩:=pC (us:=[]) (vs:=s.2) k L y K J g X hb (run_firstCells_none w.drew _ 0 0 0) m (by omega) (by omega) (by trivial) (by simp_all);obtain⟨H,E,e3⟩:=YM f;refine⟨_,v,w',r1,?_,by rw[E,e3];exact r3⟩;simp_all[VP,bh]
 ·rename_i q' off len cap;obtain⟨p,t,rfl⟩:=V_l hx;rw[cond_eq_ite]at f;split at f
  ·rename_i hc;obtain⟨h',h6,f⟩:=Qc f;obtain⟨w',k1,k2⟩:=La k h6 t s1;obtain⟨H,E,e3⟩:=YM f;refine⟨β,_,w',fun ty=>FL T U ty q.1 i L y m (ae hc) (by rw[g];rw[bS];exact k1),?_,by simp_all⟩;rw[H];show(β q').map _=_;rw[t];rfl
  ·rename_i hc;obtain⟨us',h6,f⟩:=Qc f;obtain⟨hl,f⟩:=Q9 f;have hl:=ae hl;have hc:¬len+s.1<=cap:=fun e=>hc (aB e);obtain⟨olds,o1,o2,o3⟩:=cy (cap:=cap) k.ob h6 t;obtain⟨v,w',p',r1,r2,r3,_⟩:=pC (us:=[]) (vs:=s.2) k L y K J g X hb (by rw[g];exact o3 w.drew rfl) m (by omega) hl (Tv o1 s1) (by grind);obtain⟨H,E,e3⟩:=YM f;refine⟨_,v,w',r1,?_,by rw[E,e3];exact r3⟩
   grind[VP]
 ·rename_i q' off len zz;obtain⟨b,h6,f⟩:=Qc f;obtain⟨c,h7,f⟩:=Qc f;obtain⟨h8,hr1⟩:=Q9 f;obtain⟨h9,j⟩:=Q9 hr1;clear f hr1;rw[aq]at h8;have h8a:=ah h8.1;have h8b:=ah h8.2;obtain⟨p,t,hcap,rfl⟩:=V_o hx;subst h8a;obtain⟨p',o,k1,k2,k3⟩:=k.ob q' b h6;rw[t]at k1;cases k1;have hC:=O.QHT h7;rw[hC]at k3;obtain⟨cs,xs,rfl,x2,x3,x4,x5,x6,x7⟩:=k3;have F:0<q.2:=by omega
  rw[cond_eq_ite]at j;split at j
  ·rename_i hc;have hc:=ae hc;obtain⟨h',h10,Y⟩:=Qc j;obtain⟨w',m1,m2⟩:=La k h10 t s1;obtain⟨H,E,e3⟩:=YM Y;have d:len+s.1<=(p.size-(p.EW+off))/q.2:=by
    rw[eU F];omega
   refine⟨β,_,w',fun ty=>FL T U ty q.1 i L y m d (by rw[g];rw[bS];exact m1),?_,by simp_all⟩;rw[H];exact kM t d
  ·obtain⟨t1,Y⟩:=Q9 j;obtain⟨t2,hr4⟩:=Q9 Y;obtain⟨t3,hr5⟩:=Q9 hr4;obtain⟨t4,hr6⟩:=Q9 hr5;have t1:=ah t1;have t2:=ah t2;have t3:=ae t3;have t4:=ae t4;subst t1;rw[bh]at t2;obtain⟨H,E,e3⟩:=YM hr6;have hxl:=Vj x3;by_cases d:len+s.1<=(p.size-(p.EW+0))/q.2
   ·have j:=(eU F).1 d;rw[eZ]at j;have hst:=run_storeCells_at (P:=P) p.ZH (p.EW+(0+len*q.2)) c.2.1 us 0 cs w k2 (by omega) (jK g3 s1);refine⟨kf β n p,_,_,fun ty=>FL T U ty q.1 i L y m d (by rw[g,bS];omega),?_,?_⟩
    ·rw[H];exact kM (VP β n p) d
    ·rw[E,e3];refine Mv.ren k h6 t t3 (obj:=.cells ((cs.toList.take (p.EW+(0+len*q.2)+0)++us++cs.toList.drop (p.EW+(0+len*q.2)+0+us.length)).toArray) q.1 (0,0)) (by grind[xG]) ⟨rfl,rfl,rfl,trivial⟩ ?_;refine⟨_,xs++us,rfl,by grind,Tv x3 s1,fun i v y=>?_,by simp_all,fun ho=>(by cases ho),x7⟩;simp only[List.getElem?_toArray,eQ,bh,List.getElem?_append,aF,bT,ee,List.getElem?_take,List.getElem?_drop]at y ⊢
     grind
   ·have hcl:cellsOf h q' 0 (len*q.2)=some c.1:=by
     unfold cellsOf bd;rw[h6];show bd b.o.D _=_;rw[hC];show yJ (len*q.2) 0 c.1=_;show(bif ak (len*q.2) c.1.length then some (c.1.take (len*q.2))else none)=_;simp_all[aB,ar]
    obtain⟨olds,o1,o2,o3⟩:=cy (cap:=(p.size-(p.EW+0))/q.2) k.ob hcl t;have kd:=Mv.drop (lv:=lv) k q';obtain⟨v,w',p',r1,r2,r3,_⟩:=pC (us:=[]) (vs:=s.2) kd.ok L y K J g X hb (by rw[g];exact o3 w.drew rfl) m (by omega) t4 (Tv o1 s1) (by grind);refine⟨_,v,w',r1,?_,by rw[E,e3];exact kd.trans r3⟩
    grind[VP]
 trivial
theorem QEU(k:Ok β h n w){T U:TypeId}{x y:A}{g d:Value}{r:R}(b:(append P T U).f lv h n x y=some r)(hx:V β x=some g)(p:V β y=some d):
  ∃β' v w',(∀ty,(aH #[T,U] ty #[g,d]).run P w = .ok v w')/\V β' r.a=some v/\Mv lv β h n w β' r.h r.n w':=by
 unfold append at b;split at b
 ·cases b
 ·rename_i q H;obtain⟨ht,i0,J,E⟩:=Ue H;split at b
  ·cases b
  ·rename_i i K;rw[ZX]at b;split at b
   ·rename_i hg;rw[aq,aq]at hg;have hb:=ae hg.1;have o:=ah hg.2.1;have F:=ae hg.2.2;obtain⟨s,g1,b⟩:=Qc (show bd ((uk P U q.2).f h y) (fun s=>gu _ _)=some r from b);obtain⟨c,b⟩:=Q9 b;obtain⟨L,b⟩:=Q9 b;have c:=ah c;obtain⟨us,m,s2⟩:=QJr k.ob g1 p c L;have t:=Vj m;have hz:∃z,i.zero=some z/\z.cells.size=i.size:=by
     have:Ju P q.1=some ((Ju P q.1).getD []):=by
      cases e:Ju P q.1<;>grind
     obtain⟨i',z,j,X,e3⟩:=RV (β:=β) this;rw[K]at j;have Y:=aa j;subst Y;refine⟨z,X,?_⟩;have:=Vj e3
     grind
    grind[QCK]
   trivial
theorem vZ(z:Array Value)(n i:Nat)(b:i<n*z.size):(bw z n)[i]?=z.toList[i%z.size]?:=by
 have a:0<z.size:=by
  grind
 simp_all[Nat.mod_lt,bw,if_pos]
theorem QIV{T:TypeId}(h:QGJ P T=true):∃k,P.underlying T=some (.int k):=by
 grind[QGJ]
theorem QCJ(k:Ok β h n w){T U:TypeId}{x y:A}{K J:Value}{r:R}(hU:QGJ P U=true)(b:(p8 P T).f lv h n x y=some r)(hx:V β x=some K)(hy:V β y=some J):
  ∃β' v w',(∀ty,(aH #[T,U] ty #[K,J]).run P w = .ok v w')/\V β' r.a=some v/\Mv lv β h n w β' r.h r.n w':=by
 obtain⟨kn,htn⟩:=QIV hU;unfold p8 at b;split at b
 ·cases b
 ·rename_i q hq;obtain⟨ht,i0,t,hsz⟩:=Ue hq;split at b
  ·cases b
  ·rename_i i hi;rw[hi]at t;have e0:=aa t;subst e0;rw[ZX]at b;split at b
   ·rename_i hg;rw[aq,aq]at hg;have hb:=ae hg.1;have hzl:=ah hg.2.1;have hs1:=ae hg.2.2;simp only at b;split at b
    ·rename_i o;obtain⟨g1,b⟩:=Q9 b;obtain⟨H,b⟩:=Q9 b;have g1:=ae g1;have H:=ae H;unfold lim at H;cases aa (show some _=some K from hx);cases aa (show some _=some J from hy);have X:Ju P q.1=some ((Ju P q.1).getD []):=by
      cases e:Ju P q.1<;>grind
     obtain⟨i',z,e1,e2,e3⟩:=RV (β:=β) X;rw[hi]at e1;have e0:=aa e1;subst e0;generalize (Ju P q.1).getD []=zl at *
     have L:z.cells.size=i.size:=by have:=Vj e3;simp_all
     have d:=fun ty=>Lib.run_append_nil_zeros w T U ty q.1 i z .i64 kn ht htn hi e2 o g1 (by omega) (by omega) (by have:=eL H hb;omega);have hgc:=grownCap_ge w o 0 q.1;obtain⟨p,E⟩:∃p,p=grownCap w o 0 q.1:=⟨_,rfl⟩;rw[<-E]at hgc d;obtain⟨m,g⟩:∃m,m=bw z.cells o++bw z.cells (p-o):=⟨_,rfl⟩;rw[<-g]at d;have F:m.size=p*q.2:=by
      rw[g,fe,size_zeroCells,size_zeroCells,L,hsz,<-eZ];simp_all
     obtain⟨us,u1,u2,u3⟩:=QA7 e3 o;have ho:Oo β ⟨w.heap.size,0,p*q.2⟩ (.cells m q.1) (.c (rep zl o) q.1 true):=by
      refine⟨m,us,rfl,F,u1,fun j v hj=>?_,?_,fun h=>(by cases h),rfl⟩
      ·have hjl:=(List.getElem?_eq_some_iff.1 hj).1;have Y:z.cells.toList.length=z.cells.size:=by simp
       rw[g];rw[bh,Array.getElem?_append_left (by grind[size_zeroCells]),vZ _ _ _ (by simp_all),<-hj,u3 j (by omega),Y]
      ·simp_all[QCx,bh,Nat.mul_le_mul_right]
     obtain⟨a1,a2⟩:=cQ (w':=w.drew.alloc _) k b rfl ⟨rfl,rfl,rfl,trivial⟩ ho;refine⟨_,_,_,d,?_,a2⟩;rw[a1];have hc:(p*q.2-(0+0))/q.2=p:=by grind[ff]
     have:=kM (β:=kf β n ⟨w.heap.size,0,p*q.2⟩) (off:=0) (len:=o) (sz:=q.2) (VP _ _ _) (by simp_all);rw[this];rw[hc];rfl
    trivial
   trivial
end
end Go.Ev
namespace Go.Ev
open Go.RowKit
section
variable{P:Program}{β:Be}{c:Lc}{st:List A}{m:Tr A}{ρ:Operand->Value}{h:Tr B}{n:Po}{w w':World}{lv:Nat}
theorem Mv.gone(k:Ok β h n w){q:Po}{b:B}{p:Pl}(hq:h.get q=some b)(hp:β q=some p)(hlv:lv<=b.lv)(hsz:w'.heap.size=w.heap.size)(hw:∀x,x≠p.ZH->w'.heap[x]?=w.heap[x]?)(U:jD w w'):
  Mv lv β h n w β (h.put none q) n w':=by
 have E:∀F H,(h.put none q).get F=some H->F≠q/\h.get F=some H:=fun F H hb=>by
  grind[Tr.K4]
 refine⟨ar _,fun _ _=>rfl,⟨fun F H hb=>?_,fun q1 q2 b1 b2 p1 p2 J Y=>k.inj q1 q2 b1 b2 p1 p2 (E _ _ J).2 (E _ _ Y).2,k.top⟩,U.os,U.tape,U.out,U.drawn,by omega,fun b1 J hh=>?_,fun F c L X g hlt=>⟨F,c,L,(E _ _ X).2,g,rfl,id⟩,fun K _ hh q c X=>hh q c (E _ _ X).2⟩
 ·obtain⟨h1,h2⟩:=E F H hb;obtain⟨L,o,k1,k2,k3⟩:=k.ob F H h2;exact⟨L,o,k1,by rw[hw _ fun e=>h1 (k.inj F q H b L p h2 hq k1 hp e)];exact k2,k3⟩
 grind
theorem cm(hm:Ob β h w){U:TypeId}{sz j:Nat}{y:A}{s:Nat×List A}{d:Value}(b:(uk P U sz).f h y=some s)(g:V β y=some d)(x:s.2.length=s.1*sz)(z:j<=s.1):
  ∃us,Vs β (s.2.take (j*sz))=some us/\us.length=j*sz/\(∀w,(fk d).run P w = .ok s.1 w)/\(bH sz j d).run P w = .ok us.toArray w:=by
 unfold uk at b;split at b
 ·obtain⟨k,g1,b⟩:=Qc (show bd _ (fun k=>bd _ fun vs=>some (k,vs))=some s from b);obtain⟨vs,p,b⟩:=Qc b;cases aa b;rcases yh hm g1 p g with ⟨rfl,rfl,rfl⟩ | ⟨a,cap,us,rfl,c,t,q⟩
  ·have:j=0:=by omega
   subst this;exact⟨[],by simp[Vs],by simp,fun _=>rfl,run_firstCells_none w sz 0 0 0⟩
  ·have o:=Vj c;refine⟨us.take _,P3 _ c,by simp_all,fun _=>rfl,run_firstCells_some w sz j a k cap _ (by simp_all) fun i u E=>?_⟩
   grind
 ·rw[ZX]at b;split at b
  ·rename_i e;obtain⟨l,g1,b⟩:=Qc (show bd y.S (fun l=>some (l.length,Fg l))=some s from b);cases aa b;have e:=ah e;subst e;rw[A.QCR g1]at g;obtain⟨c,rfl⟩:=uS g;have hb:=El (β:=β) c;have m:=byteCells_length (Hr l);rw[V3]at m;refine⟨_,P3 _ hb,by simp_all,fun w=>by simp[fk,V3],?_⟩;simp[bH,aw];congr 1;apply fP;simp[Nat.mul_one,byteCells,Hr,eK,Array.toList_map,List.map_take]
  trivial
 trivial
theorem QIf(k:Ok β h n w){T U:TypeId}{j:List A}{us:List Value}{r:R}(b:(bi P .copy T U).f lv h n j=some r)(hx:Vs β j=some us):
  ∃β' v w',(∀ty,(bZ #[T,U] ty us.toArray).run P w = .ok v w')/\V β' r.a=some v/\Mv lv β h n w β' r.h r.n w':=by
 unfold bi at b;simp only at b;split at b
 ·cases b
 ·rename_i q hq;obtain⟨ht,i,hi,Y⟩:=Ue hq;revert b;intro b
  match j,hx,b with
  |[x,y],hx,b =>
   obtain⟨vx,r1,m,H,rfl⟩:=XY hx;obtain⟨J,r2,z,F,rfl⟩:=XY H;have:=Kq F;subst this;obtain⟨s,g1,o⟩:=Qc (show bd ((uk P U q.2).f h y) (fun s=>gu _ _)=some r from b);obtain⟨g,c⟩:=Q9 o;have g:=ah g;have key:∀(d:Po) (off a cap:Nat) (p:Pl),β d=some p->bd (ID lv h d off (s.2.take (ek s.1 a*q.2))) (fun h=>rz (num (ek s.1 a)) h n)=some r ->
     ∃β' v w',(∀ty,(bZ #[T,U] ty [Value.slice (some (p.at off)) a cap,J].toArray).run P w = .ok v w')/\V β' r.a=some v/\Mv lv β h n w β' r.h r.n w':=by
    intro d off a cap p e b;obtain⟨h',h6,b⟩:=Qc b;obtain⟨t,e2,e3⟩:=YM b;obtain⟨us,E,X,L,K⟩:=cm k.ob g1 z g (Nat.min_le_left s.1 a);obtain⟨w',k1,k2⟩:=La (P:=P) k h6 e E;refine⟨β,goInt _,w',fun ty=>?_,by rw[t];rfl,by simp_all⟩;simp_all[bZ,run_underlying,sizeOf,typeInfo]
   split at c
   ·cases uE m;obtain⟨t,e2,e3⟩:=YM c;obtain⟨us,E,X,L,K⟩:=cm k.ob g1 z g (aY s.1);refine⟨β,goInt 0,w,fun ty=>?_,by rw[t];rfl,by grind[Mv.refl]⟩;simp_all[bZ,run_underlying,sizeOf,typeInfo]
   ·obtain⟨p,e,rfl⟩:=V_l m;exact key _ _ _ _ p e c
   ·obtain⟨p,e,_,rfl⟩:=V_o m;exact key _ _ _ _ p e c
   trivial
  |[],hx,b=>cases b
  |[_],hx,b=>cases b
  |_::_::_::_,hx,b=>cases b
end
end Go.Ev
namespace Go.Ev
open Go.RowKit
section
variable{P:Program}{β:Be}{c:Lc}{st:List A}{m:Tr A}{ρ:Operand->Value}{h:Tr B}{n:Po}{w w':World}{lv:Nat}
theorem Ud(c:Array _)(b:TypeId)(a:Addr)(len cap:Nat)(h:cap≠0):(bO c b #[.slice (some a) len cap]).run P w = .ok (.pointer (some a)) w:=by
 have d:bO c b #[.slice (some a) len cap] =
   (do
    if cap≠0 then pure _
    else if(<-viewAt _).isSome then pure _
    else pure (.pointer (some ⟨<-newObj (.view a (<-elemOf b)),0,none⟩))):=rfl
 simp_all
theorem Le(k:Ok β h n w){T U:TypeId}{i:List A}{us:List Value}{r:R}(b:(bi P .unsafeSliceData T U).f lv h n i=some r)(hx:Vs β i=some us)(g:Array _):
  ∃β' v w',(∀ty,(bO g ty us.toArray).run P w = .ok v w')/\V β' r.a=some v/\Mv lv β h n w β' r.h r.n w':=by
 unfold bi at b;simp only at b;split at b
 ·obtain⟨j,m,d,c,rfl⟩:=XY hx;have:=Kq c;subst this;obtain⟨p,q,rfl⟩:=V_l d;obtain⟨e,o,e3⟩:=YM b;exact⟨β,.pointer _,w,fun ty=>Ud g ty _ _ _ (Nat.succ_ne_zero _),by rw[e];show(β _).map _=_;simp_all,by grind[Mv.refl]⟩
 ·obtain⟨j,m,d,c,rfl⟩:=XY hx;have:=Kq c;subst this;obtain⟨p,q,t,rfl⟩:=V_o d;obtain⟨e,o,e3⟩:=YM b;have x:=Nat.ne_of_gt (ay (Nat.succ_pos _) t);exact⟨β,.pointer _,w,fun ty=>Ud g ty _ _ _ x,by rw[e];show(β _).map _=_;simp_all,by grind[Mv.refl]⟩
 ·obtain⟨j,m,d,c,rfl⟩:=XY hx;have:=Kq c;subst this;cases uE d;obtain⟨e,o,e3⟩:=YM b;exact⟨β,.pointer none,w,fun ty=>rfl,by rw[e];rfl,by grind[Mv.refl]⟩
 trivial
theorem ua(b:Array _)(c:TypeId)(p:Option Addr)(k:IntKind)(a:b[0]?.isSome=true):(aW b c #[.pointer p,.int k 0]).run P w = .ok (.string .empty) w:=by
 obtain⟨e,a⟩:=Option.isSome_iff_exists.1 a;have d:∀(f:Int->Sem Value) ,(asInt (.int k 0) >>= f).run P w=(f 0).run P w:=fun f=>by rfl
 show(asInt (.int k 0) >>= _).run P w=_;rw[d,a];cases p<;>rfl
theorem QHi(k:Ok β h n w){T U:TypeId}{xs:List A}{us:List Value}{r:R}(g:(bi P .unsafeString T U).f lv h n xs=some r)(hx:Vs β xs=some us)(z:Array _)(ht:z[0]?=some T):
  ∃β' v w',(∀ty,(aW z ty us.toArray).run P w = .ok v w')/\V β' r.a=some v/\Mv lv β h n w β' r.h r.n w':=by
 unfold bi at g;simp only at g;split at g
 ·rename_i e he;rw[ZX]at g;split at g
  ·rename_i i;have i:=ah i;simp only at g;split at g
   ·obtain⟨vx,r1,y,t,rfl⟩:=XY hx;obtain⟨vy,r2,q,m,rfl⟩:=XY t;have:=Kq m;subst this;obtain⟨p,hp,rfl⟩:=vB y;rw[Fw q];obtain⟨E,e2,e3⟩:=YM g;exact⟨β,.string .empty,w,fun ty=>ua z ty _ _ (by simp_all),by rw[E];rfl,by grind[Mv.refl]⟩
   ·obtain⟨vx,r1,y,t,rfl⟩:=XY hx;obtain⟨vy,r2,q,m,rfl⟩:=XY t;have:=Kq m;subst this;cases uE y;rw[Fw q];obtain⟨E,e2,e3⟩:=YM g;exact⟨β,.string .empty,w,fun ty=>ua z ty _ _ (by simp_all),by rw[E];rfl,by grind[Mv.refl]⟩
   ·rename_i d off kk _;obtain⟨vx,r1,y,t,rfl⟩:=XY hx;obtain⟨vy,r2,q,m,rfl⟩:=XY t;have:=Kq m;subst this;obtain⟨p,hp,rfl⟩:=vB y;rw[Fw q];obtain⟨h1,hr1⟩:=Q9 g;obtain⟨h2,hr2⟩:=Q9 hr1;obtain⟨b,h3,hr3⟩:=Qc hr2;obtain⟨h4,Y⟩:=Q9 hr3;obtain⟨cc,h5,X⟩:=Qc Y;obtain⟨h6,L⟩:=Q9 X;obtain⟨l,h7,K⟩:=Qc L;obtain⟨c,h8,J⟩:=Qc K;obtain⟨E,e2,e3⟩:=YM J;obtain⟨p',o,k1,k2,k3⟩:=k.ob _ b h3;rw[hp]at k1;cases k1;rw[O.QHT h5]at k3;obtain⟨cs,vs,rfl,g2,g3,g4,g5,g6,g7⟩:=k3;obtain⟨l1,l2⟩:=OM h7;have hl:Vs β l=some ((vs.drop 0).take kk):=by grind[P3,Fh]
    obtain⟨b1,b2⟩:=qF h8 hl;have hVl:=Vj hl;have h1:=ah h1;have h2:=ae h2;have h4:=ae h4;have h6:=ah h6;unfold lim at h2;have hbl:c.length=l.length:=by
     simp_all
    have hll:l.length=kk:=by simp_all
    have hv:V β r.a=some (.string (Hr c)):=by grind[vW]
    refine⟨β,.string (Hr c),?_⟩;by_cases h0:c=[]
    ·simp_all
    ·have hat:p.at off=⟨p.ZH,0,none⟩:=by grind[Pl.at]
     refine⟨w.freeze ⟨p.ZH,0,none⟩ (c.map aD).length,fun ty=>?_,hv,?_⟩
     ·have H:(aW z ty)=(aW #[T,U] ty):=by
       funext args;unfold aW;rw[ht];rfl
      have:=Lib.run_unsafeString_row (w:=w) T U ty e he i p.ZH cs.size (by simp[World.shape?,k2,h6]) (c.map aD) (by simp_all) (by grind) (by grind) (fun j x hj=>?_)
      ·rw[hat,H];rw[eF,hbl,hll]at this ⊢;exact this
      ·have hlt:j<c.length:=by grind
       have hb:(c.map QDV)[j]?=some (QDV c[j]):=by grind
       rw[<-b2,List.getElem?_take,List.drop_zero]at hb;split at hb
       ·have i:=g4 j _ hb;rw[g7,bh]at i;have hx:x=aD c[j]:=by simp_all
        have hle:c[j]<=255:=by
         simp_all[Uz,az,ae,List.getElem_mem]
        have F:(x.toNat:Int)=(c[j]:Int):=by
         grind[bm,bj]
        rw[F];have ea:(⟨p.ZH,0,none⟩:Addr).add j=⟨p.ZH,j,none⟩:=by grind[Addr.add]
        rw[ea];simp[World.cell?,k2,i,QDV]
       omega
     ·rw[e2,e3];refine Mv.gone k h3 hp h4 ?_ (fun x hx=>?_) ⟨?_,?_,?_,trivial⟩<;>unfold World.freeze<;>split
      all_goals grind
   trivial
  trivial
 trivial
end
end Go.Ev
namespace Go.Ev
open Go.RowKit
section
variable{P:Program}{β:Be}{c:Lc}{st:List A}{m:Tr A}{ρ:Operand->Value}{h:Tr B}{n:Po}{w w':World}{lv:Nat}{r:R}{ih:Ih}
theorem QL3(k:Ok β h n w){b:Builtin}{args:Array _}{ts:Array _}(hr0:(loD P c (.call ⟨.builtin b,args,ts⟩)).f ih lv st m h n=some r)
  (hρ:∀z∈(Op.call ⟨.builtin b,args,ts⟩).operands,∀a,ev c z st m=some a->V β a=some (ρ z)):Lo1 P lv β h n w (.call ⟨.builtin b,args,ts⟩) ρ r:=by
 obtain⟨xs,h1,hr⟩:=Qc (show bd _ (fun xs=>(biT P b ts).f lv h n xs)=some r from hr0);have hv:=Tb h1 fun x hx=>hρ x (by grind[aj,aQ]);have fin:∀ {f:TypeId->Sem Value},(∀ty,execOp ρ ⟨none,.call ⟨.builtin b,args,ts⟩,ty, "",#[],none⟩=(f ty >>= fun v=>pure (Next.value v)))->(∃β' v w',(∀ty,(f ty).run P w = .ok v w')/\V β' r.a=some v/\Mv lv β h n w β' r.h r.n w')->Lo1 P lv β h n w (.call ⟨.builtin b,args,ts⟩) ρ r:=by
  rintro f hf ⟨β',v,w',g1,g2,g3⟩;refine⟨β',v,.value v,w',fun d ty pos aft gd=>?_,.inl rfl,g2,g3⟩;show(execOp ρ ⟨none,.call ⟨.builtin b,args,ts⟩,ty, "",#[],none⟩).run P w=_;simp_all
 have hap:∀ty,execOp ρ ⟨none,.call ⟨.builtin b,args,ts⟩,ty, "",#[],none⟩=builtin b ts ty _ (args.toList.map ρ).toArray:=fun ty=>RD rfl;unfold biT at hr;split at hr
 ·rename_i T U hts;have hts:ts=#[T,U]:=by grind
  subst hts;cases b with
  |append =>
   refine fin (fun ty=>by rw[hap];rfl) ?_
   match xs,hv,hr with
   |[x,y],hv,hr =>
    obtain⟨vx,r1,x1,x2,e1⟩:=XY hv;obtain⟨vy,r2,y1,y2,e2⟩:=XY x2;subst e2;rw[e1];cases hU:QGJ P U with
    |false =>
     refine QEU k ?_ x1 y1;have hr:(cn _ _ (append P T U)).f lv h n x y=some r:=hr;rw[hU]at hr;exact hr
    |true =>
     refine QCJ k hU ?_ x1 y1;have hr:(cn _ _ (append P T U)).f lv h n x y=some r:=hr;rw[hU]at hr;exact hr
   |[],_,hr=>cases hr
   |[_],_,hr=>cases hr
   |_::_::_::_,_,hr=>cases hr
  |copy=>exact fin (fun ty=>by rw[hap];rfl) (QIf k hr hv)
  |unsafeSliceData=>exact fin (fun ty=>by rw[hap];rfl) (Le k hr hv _)
  |unsafeString=>exact fin (fun ty=>by rw[hap];rfl) (QHi k hr hv _ rfl)
  |_=>cases hr
 ·split at hr
  ·exact fin (fun ty=>by rw[hap];rfl) (Le k hr hv _)
  trivial
 trivial
theorem QGE(k:Ok β h n w){T:TypeId}{x:Operand}(g:(loD P c (.range T x)).f ih lv st m h n=some r)
  (X:∀z∈(Op.range T x).operands,∀a,ev c z st m=some a->V β a=some (ρ z)):Lo1 P lv β h n w (.range T x) ρ r:=by
 unfold loD at g;simp only at g;split at g
 ·rename_i y;obtain⟨a,F,g⟩:=Qc g;obtain⟨l,E,g⟩:=Qc g;have hx:=X x (by simp[aj]) _ F;rw[A.QCR E]at hx;obtain⟨t,hx⟩:=uS hx;obtain⟨H,g1⟩:=cQ (w':=w.alloc _) (sz:=0) k g rfl ⟨rfl,rfl,rfl,trivial⟩ ⟨t,rfl,rfl⟩;refine⟨_,.pointer (some ⟨w.heap.size,0,none⟩),.value _,_,fun d ty j K gd=>?_,.inl rfl,?_,g1⟩
  ·simp only[execOp,hx,fL,ai,run_underlying y,af,aw,run_newObj];rfl
  ·rw[H];show(kf β n _ n).map _=_;rw[VP];rfl
 ·rename_i kt e y;obtain⟨a,F,g⟩:=Qc g;obtain⟨q,E,g⟩:=Qc g;obtain⟨b,h3,g⟩:=Qc g;have hx:=X x (by simp[aj]) _ F;rw[A.QIz E]at hx;obtain⟨p,Y,hx⟩:=V_m hx;obtain⟨p',o,U,k2,L⟩:=k.ob q b h3;rw[Y]at U;cases U;split at g
  ·rename_i es J e0;rw[e0]at L;obtain⟨i,rfl,_⟩:=L;obtain⟨H,g1⟩:=cQ (w':=w.alloc (.mapIter (some p.ZH) J #[] J)) (sz:=0) k g rfl ⟨rfl,rfl,rfl,trivial⟩ ⟨rfl,p,Y,by simp⟩;refine⟨_,.pointer (some ⟨w.heap.size,0,none⟩),.value _,_,fun d ty j K gd=>?_,.inl rfl,?_,g1⟩
   ·have eg:(getObj p.ZH).run P w = .ok (.map i J) w:=by grind[getObj,bI]
    simp only[execOp,hx,fL,ai,run_underlying y,af,aw,run_newObj,eg];rfl
   ·rw[H];show(kf β n _ n).map _=_;rw[VP];rfl
  trivial
 trivial
theorem QIQ(k:Ok β h n w){T U:TypeId}{x:Operand}(b:(loD P c (.convert T U x)).f ih lv st m h n=some r)
  (t:∀z∈(Op.convert T U x).operands,∀a,ev c z st m=some a->V β a=some (ρ z)):Lo1 P lv β h n w (.convert T U x) ρ r:=by
 obtain⟨a,J,b⟩:=Qc (show bd (ev c x st m) (fun a=>bd a.S fun l=>bd _ fun e=>gu _ _)=some r from b);obtain⟨l,H,b⟩:=Qc b;obtain⟨e,h3,b⟩:=Qc b;obtain⟨h4,b⟩:=Q9 b;rw[ZX]at b;split at b
 ·have hx:=t x (by simp[aj]) _ J;rw[A.QCR H]at hx;obtain⟨j,hx⟩:=uS hx;have y:P.underlying T=some .string:=by
   grind[WS]
  have F:P.underlying e=some (.int .u8):=by
   grind[u8B]
  have g:=Lib.run_convert_string_bytes w T U e (Hr l) y (QA2 h3) F;have E:=grownCap_ge w (Hr l).size 0 e;have p:(aG w e (Hr l)).size=grownCap w (Hr l).size 0 e:=by
   have:(Hr l).data.size=(Hr l).size:=rfl
   grind[aG]
  have o:(Lib.bytesWorld w e (Hr l)).heap=w.heap.push (.cells (aG w e (Hr l)) e ((aG w e (Hr l)).size,(aG w e (Hr l)).size+1)):=by
   apply Array.ext_getElem?
   grind[Lib.bytesWorld_at_new,Lib.bytesWorld_at_old,Lib.bytesWorld_size]
  obtain⟨K,g1⟩:=cQ (sz:=(aG w e _).size) k b o ⟨rfl,rfl,rfl,trivial⟩ ⟨_,_,_,byteCells _,rfl,rfl,El j,fun i v Y=>by
   unfold aG
   grind[byteCells],by
   simp[Fg,aG,Hr,eF,V3]⟩
  refine⟨_,.slice (some ⟨w.heap.size,0,none⟩) (Hr l).size (grownCap w (Hr l).size 0 e),.value _,_,fun d X q L gd=>?_,.inl rfl,?_,g1⟩
  ·simp only[execOp,hx,ai,g];rfl
  ·rw[K];have hd:(⟨w.heap.size,0,(aG w e _).size⟩:Pl).size-(0+0)=grownCap w (Hr l).size 0 e:=p;rw[kM (VP β n _) (by simp_all[fQ,V3])];rw[hd,fQ,V3];rfl
 trivial
theorem asc{l:List Nat}{a c d:Nat}(f:Uz l=true)(h:utf l a=some (c,d)):Utf8.decode (Hr l) a=(c,d):=by
 obtain⟨x,g,h⟩:=Qc h;obtain⟨b,h⟩:=Q9 h;cases aa h;have b:=ae b;have hp:a<(Hr l).size:=by grind[V3]
 have e:((Hr l)[a]'hp)=aD c:=by
  show(Hr l).data[a]=_
  grind[Hr]
 grind[Hr,bm,bj,decode_ascii]
theorem Fi(f:Nat->Bool):∀ {es:List _} {ents:List _},En β es ents->En β (es.filter fun e=>f e.2.2) (ents.filter fun e=>f e.born)
 |[],[],_=>trivial
 |(k,v,b)::es,e::ents,⟨d,c,h3,a⟩=>by
  rw[fh,fh,h3];cases f b with
  |true=>exact⟨d,c,h3,Fi f a⟩
  |false=>exact Fi f a
 |[],_::_,h=>h.elim
 |_::_,[],h=>h.elim
theorem QHO(f:Nat->Bool):∀ {es:List _} {ents:List _},En β es ents->(ents.all fun e=>f e.born)=(es.all fun e=>f e.2.2)
 |[],[],_=>rfl
 |(k,v,b)::es,e::ents,⟨d,c,h3,a⟩=>by rw[bB,bB,h3,QHO f a]
 |[],_::_,h=>h.elim
 |_::_,[],h=>h.elim
theorem QLP{b:List _}{a:List _}(h:En β b a):a.isEmpty=b.isEmpty:=by
 cases b<;>cases a<;>first | rfl | trivial
theorem QIP(k:Ok β h n w){x:Operand}{L:Bool}(hr0:(loD P c (.next x L)).f ih lv st m h n=some r)
  (hρ:∀z∈(Op.next x L).operands,∀a,ev c z st m=some a->V β a=some (ρ z)):Lo1 P lv β h n w (.next x L) ρ r:=by
 obtain⟨a,h1,hr1⟩:=Qc (show bd (ev c x st m) (fun a=>bd a.P fun q=>gu _<|bd (h.get q.1) fun b=>gu _ _)=some r from hr0);obtain⟨q,h2,hr2⟩:=Qc hr1;obtain⟨h3,hr3⟩:=Q9 hr2;obtain⟨b,h4,hr4⟩:=Qc hr3;obtain⟨h5,Y⟩:=Q9 hr4;clear hr0 hr1 hr2 hr3 hr4;have h3:=ah h3;have h5:=ae h5;have hx:=hρ x (by simp[aj]) _ h1;rw[A.jC h2]at hx;obtain⟨p,hp,hx⟩:=vB hx;obtain⟨p',o,k1,k2,k3⟩:=k.ob q.1 b h4;rw[hp]at k1;cases k1;split at Y
 ·rename_i l F e0;rw[e0]at k3;obtain⟨g1,rfl,g3⟩:=k3;have hx:ρ x = .pointer (some ⟨p.ZH,0,none⟩):=by grind[Pl.at]
  obtain⟨hs,E⟩:=Q9 Y;subst hs;have eg:(getObj p.ZH).run P w = .ok (.stringIter (Hr l) F) w:=by grind[getObj,bI]
  have es':∀o':Obj,(setObj p.ZH o').run P w = .ok () { w with heap:=w.heap.setIfInBounds p.ZH o' }:=fun o'=>by grind[setObj,bI]
  rw[cond_eq_ite]at E;split at E
  ·rename_i hlt;have hlt:=ae hlt;obtain⟨cc,h6,X⟩:=Qc E;obtain⟨e1,e2,e3⟩:=YM X;have hd:=asc g1 (show utf l F=some (cc.1,cc.2)from h6);refine⟨β,.tuple #[.bool true,goInt F,.int .i32 _],.value _,{ w with heap:=w.heap.setIfInBounds p.ZH (.stringIter (Hr l) (F+cc.2)) },fun d ty J aft gd=>?_,.inl rfl,by rw[e1];rfl,?_⟩
   ·have hps:F<(Hr l).size:=by grind[V3]
    simp only[execOp,hx,eI,ai,eg,af,if_pos hps,hd,es',aw];rfl
   ·rw[e2,e3];exact Mv.put k h4 hp h5 rfl ⟨rfl,rfl,rfl,trivial⟩ ⟨g1,rfl,g3⟩
  ·rename_i hlt;obtain⟨e1,e2,e3⟩:=YM E;refine⟨β,.tuple #[.bool false],.value _,w,fun d ty J aft gd=>?_,.inl rfl,by rw[e1];rfl,by grind[Mv.refl]⟩;have hps:¬F<(Hr l).size:=by grind[V3,aB]
   simp only[execOp,hx,eI,ai,eg,af,if_neg hps,aw]
 ·rename_i pm j g y e0;rw[e0]at k3;obtain⟨g3,pq,g4,rfl⟩:=k3;have hx:ρ x = .pointer (some ⟨p.ZH,0,none⟩):=by grind[Pl.at]
  obtain⟨hs,E⟩:=Q9 Y;have hs:L=false:=by simp_all
  subst hs;obtain⟨d,h6,X⟩:=Qc E;clear Y E;obtain⟨pm',om,m1,m2,m3⟩:=k.ob pm d h6;rw[g4]at m1;cases m1;split at X
  ·rename_i es K e1;rw[e1]at m3;obtain⟨i,rfl,m4⟩:=m3;obtain⟨h7,U⟩:=Q9 X;have hseen:(g.reverse.toArray:Array Nat).isEmpty=g.isEmpty:=by simp
   have hcon:∀x,(g.reverse.toArray:Array Nat).contains x=g.contains x:=fun x=>by simp
   have hc0:(!(g.reverse.toArray:Array Nat).isEmpty&&!i.isEmpty&&i.all fun x=>decide (x.born>=y))=false:=by
    have a1:i.isEmpty=es.isEmpty:=by rw[<-QLP m4];simp
    have a2:(i.all fun x=>decide (x.born>=y))=es.all fun x=>ak y x.2.2:=by
     rw[<-QHO (fun b=>ak y b) m4,<-Array.all_toList];congr 1;funext x;rw[Bool.eq_iff_iff];simp
    grind
   have hfil:(i.filter fun e=>!(g.reverse.toArray:Array Nat).contains e.born).toList=i.toList.filter fun e=>!g.contains e.born:=by
    simp
   have hF:=Fi (fun b=>!g.contains b) m4;have eg:(getObj p.ZH).run P w = .ok (.mapIter (some pq.ZH) j g.reverse.toArray y) w:=by grind[getObj,bI]
   have eg2:(getObj pq.ZH).run P w = .ok (.map i K) w:=by grind[getObj,bI]
   have es':∀o':Obj,(setObj p.ZH o').run P w = .ok () { w with heap:=w.heap.setIfInBounds p.ZH o' }:=fun o'=>by grind[setObj,bI]
   have ech:(choose (Question.mapNext 1)).run P w = .ok 0 w:=by rfl
   unfold QDA at U;split at U
   ·rename_i hnil;rw[hnil]at hF;have hl:(i.filter fun e=>!(g.reverse.toArray:Array Nat).contains e.born)=#[]:=by
     apply fP;rw[hfil];revert hF;cases (i.toList.filter fun e=>!g.contains _)with
     |nil=>simp
     |cons _ _=>intro h;trivial
    obtain⟨e1,e2,e3⟩:=YM U;refine⟨β,.tuple #[.bool false],.value _,w,fun d ty J aft gd=>?_,.inl rfl,by rw[e1];rfl,by grind[Mv.refl]⟩;simp only[execOp,hx,eI,ai,eg,eg2,af,hc0,au,if_false,aw,hl];simp_all
   ·rename_i e hone;rw[hone]at hF;obtain⟨h8,hr9⟩:=Q9 U;have h8:=ae h8;obtain⟨H,hl,h9,h10,h11⟩:∃H,(i.filter fun e=>!(g.reverse.toArray:Array Nat).contains e.born)=#[H]/\V β e.1=some H.key/\V β e.2.1=some H.val/\H.born=e.2.2:=by
     revert hF;cases hq:(i.toList.filter fun e=>!g.contains _)with
     |nil=>intro h;trivial
     |cons H t=>cases t with
      |cons _ _=>intro h;exact h.2.2.2.elim
      |nil=>intro h;exact⟨H,by grind,h.1,h.2.1,h.2.2.1⟩
    obtain⟨e1,e2,e3⟩:=YM hr9;refine⟨β,.tuple #[.bool true,H.key,H.val],.value _,{ w with heap:=w.heap.setIfInBounds p.ZH (.mapIter (some pq.ZH) j (g.reverse.toArray.push H.born) K) },fun d ty J aft gd=>?_,.inl rfl,?_,?_⟩
    ·have hlt:H.born<j:=by omega
     have hge:¬H.born>=j:=by omega
     simp only[execOp,hx,eI,ai,eg,eg2,af,hc0,au,if_false,aw,hl];simp_all
    ·rw[e1];exact by unfold V;rw[Vr (show V β _=some _ from rfl) (Vr h9 (Vr h10 (show Vs β []=some []from rfl)))];rfl
    ·rw[e2,e3];exact Mv.put k h4 hp h5 rfl ⟨rfl,rfl,rfl,trivial⟩ ⟨g3,pq,g4,by simp_all⟩
   trivial
  trivial
 trivial
end
end Go.Ev
namespace Go.Ev
open Go.RowKit
section
variable{P:Program}{β:Be}{c:Lc}{st:List A}{m:Tr A}{ρ:Operand->Value}{h:Tr B}{n:Po}{w w':World}{lv:Nat}{r:R}{ih:Ih}
theorem QGF(k:Ok β h n w){T:TypeId}{x y z:Operand}{o:Op}(Y:∀d ty pos aft gd,execOp ρ ⟨d,o,ty,pos,aft,gd⟩=(bW T (ρ x) (ρ y) (ρ z) >>= fun _=>pure Next.skip))
  (j:(match QD6 P T with
  |none=>(⟨fun _ _ _ _ _ _=>none⟩:Bx Fo)
  |some w=>Bx.casesOn w.1 fun eq=>⟨fun _ lv st m h n=>bd (ev c x st m) fun a=>bd a.M fun q=>bd (ev c y st m) fun k=>bd (ev c z st m) fun v=>zc eq lv h n q k v⟩).f ih lv st m h n=some r)
  (hx:∀a,ev c x st m=some a->V β a=some (ρ x)) (E:∀a,ev c y st m=some a->V β a=some (ρ y)) (t:∀a,ev c z st m=some a->V β a=some (ρ z)):Lo1 P lv β h n w o ρ r:=by
 split at j
 ·cases j
 ·rename_i q F;obtain⟨a,L,i⟩:=Qc (show bd (ev c x st m) (fun a=>bd a.M fun nm=>bd _ fun k=>bd _ fun v=>zc q.1.f lv h n nm k v)=some r from j);obtain⟨nm,K,g⟩:=Qc i;obtain⟨key,h3,e⟩:=Qc g;obtain⟨v,J,b⟩:=Qc e;have hx:=hx _ L;rw[A.QIz K]at hx;obtain⟨p,H,hx⟩:=V_m hx;obtain⟨w',g1,X,U⟩:=QKh k F b H (E _ h3) (t _ J);refine⟨β,undef,.skip,w',fun d ty pos aft gd=>?_,.inr ⟨rfl,rfl⟩,by rw[X];rfl,U⟩;simp_all
def QKp(o:Op):Bool:=match o with | .call ⟨.value _,_,_⟩=>true | .call ⟨.invoke _ _,_,_⟩=>true | _=>false
theorem QL2(k:Ok β h n w){o:Op}(q:QKp o=false)(i:(loD P c o).f ih lv st m h n=some r)
  (e:∀z∈o.operands,∀a,ev c z st m=some a->V β a=some (ρ z)):Lo1 P lv β h n w o ρ r:=by
 cases o with
 |store T x y=>grind[QGD]
 |mapUpdate T x y z=>exact QGF k (fun d t g j E=>rfl) i (e x (by simp[aj])) (e y (by simp[aj])) (e z (by simp[aj]))
 |insert T x y z=>exact QGF k (fun d t g j E=>rfl) i (e x (by simp[aj])) (e y (by simp[aj])) (e z (by simp[aj]))
 |range T x=>grind[QGE]
 |next x s=>grind[QIP]
 |convert s d x=>grind[QIQ]
 |call ca =>
  obtain⟨F,args,H⟩:=ca;cases F with
  |value f=>cases q
  |builtin b=>grind[QL3]
  |invoke x p=>cases q
 |_=>cases i
end
end Go.Ev
namespace Go.Ev
structure Open(F:Fence):Prop where
 fn:∀f,F.fn f
 depth:F.depth=none
 calls:∀ {n:Nat} {P:Program} {f:FuncId} {args:Array Value} {w:World} {R:Ending->World->Prop},Calls P f args w R->CallsIn F n P f args w R
theorem EE:Open bV where
 fn:=fun _=>trivial
 depth:=rfl
 calls:=fun h=>callsIn_wide.2 h
theorem Bb(l:Nat):Open (Fence.wide.inRound l) where
 fn:=fun _=>trivial
 depth:=rfl
 calls:=fun h=>(callsIn_wide.2 h:CallsIn bV _ _ _ _ _ _)
def Enters(P:Program)(f:FuncId):Prop:=∀(args:Array Value) (w:World),(callFunc f args).run P w = .ok (.enter f args) w
theorem enters_of{P:Program}{f:FuncId}{fn:Func}(h:P.funcs[f]?=some fn)(b:(fn.name == "runtime.NumGoroutine")=false)(hb:fn.body.isNone=false):Enters P f:=fun args w=>by
 have a:fn.body≠none:=by intro e;rw[e]at hb;cases hb
 simp[callFunc,h,a,beq_eq_false_iff_ne.1 b]
end Go.Ev
namespace Go.Ev
open Go.RowKit
def Gl(β:Be)(n:Po):Prop:=128<=n.n/\∀g,g<=60->∃sz,β (po g)=some ⟨g,0,sz⟩
theorem QJH:∀(f t k:Nat),t<2^k->(poF f t).n<2^(k+1)
 |0,t,k,h=>by show 1<_;omega
 |f+1,t,k,h=>by
  unfold poF;rw[ZX,ZX];split
  ·show 1<_;omega
  ·have a:t≠0:=by simp_all
   cases k with
   |zero=>omega
   |succ k =>
    have b:aZ t 1=t/2:=bP t 1;have ih:=QJH f (aZ t 1) k (by omega)
    grind[Nat.pow_succ,Po.n_o,Po.n_i]
theorem QJ4{g:Nat}(h:g<=60):(po g).n<128:=QJH g g 6 (by omega)
section
variable{P:Program}{β β':Be}{h h':Tr B}{n n':Po}{w w':World}{lv:Nat}{X:Nat->Bool}
theorem Gl.mv(g:Gl β n)(k:Mv lv β h n w β' h' n' w'):Gl β' n' :=
 ⟨aM g.1 k.le,fun i E=>by obtain⟨sz,e⟩:=g.2 i E;exact⟨sz,by rw[k.old _ (ay (QJ4 E) g.1)];exact e⟩⟩
def RS(c:Lc)(β:Be)(st:List A)(m:Tr A)(b:Array Value):Prop:=∀t a,ev c (.tmp t) st m=some a->∃v,V β a=some v/\b[t]?=some v
theorem RS.le{c:Lc}{st:List A}{m:Tr A}{E:Array Value}(k:RS c β st m E)(F:Be.le β β'):RS c β' st m E:=fun t a e=>by
 obtain⟨v,J,H⟩:=k t a e;grind[qP]
theorem yY(X:Nat->Bool)(loc:List Nat)(t:Nat)(st:List A)(m:Tr A):ev ⟨X,loc⟩ (.tmp t) st m=(match ixD t loc 0 with | some i=>yK i st | none=>cn (X t) (m.get (po t)) none):=by
 have e:oaD X loc (.tmp t)=(match ixD t loc 0 with | some i=>⟨fun st _=>yK i st⟩ | none=>cn _ ⟨fun _ m=>Tr.get _ m⟩ ⟨fun _ _=>none⟩):=rfl;unfold ev;rw[Bx.co,e];cases ixD t loc 0 with
 |some i=>rfl
 |none=>cases X t<;>rfl
theorem QJP:∀(t:Nat) (loc:List Nat) (k:Nat),ixD t loc (k+1)=(ixD t loc k).map (·+1)
 |t,[],k=>rfl
 |t,d::loc,k=>by
  show cn _ _ (ixD t loc _)=fI _ (cn _ _ (ixD t loc _));rw[ZX,ZX,QJP t loc _]
  grind
theorem jQ(X:Nat->Bool)(loc:List Nat)(d t:Nat)(a:A)(st:List A)(m:Tr A):ev ⟨X,d::loc⟩ (.tmp t) (a::st) m=if d=t then some a else ev ⟨X,loc⟩ (.tmp t) st m:=by
 rw[yY,yY];show(match cn _ _ (ixD t loc _)with | some i=>yK i _ | none=>_)=_;rw[ZX,QJP];by_cases e:d=t
 ·subst e;rw[if_pos (bz d),if_pos rfl];rfl
 ·rw[if_neg (by simp_all),if_neg e];cases ixD t loc 0<;>rfl
theorem RS.start{m:Tr A}{E:Array Value}(k:Sl X β m E):RS ⟨X,[]⟩ β [] m E:=fun t a e=>by
 rw[yY]at e;replace e:cn _ _ none=some a:=e;rw[ZX]at e;split at e
 ·exact k t a (by omega) e
 grind
theorem RS.push{loc:List Nat}{st:List A}{m:Tr A}{E:Array Value}(k:RS ⟨X,loc⟩ β st m E){d:Nat}(hd:d<E.size){a:A}{v:Value}(hv:V β a=some v):RS ⟨X,d::loc⟩ β (a::st) m (E.setIfInBounds d v):=fun t b e=>by
 rw[jQ]at e;split at e
 ·simp_all
 ·obtain⟨u,g1,F⟩:=k t b e;simp_all
theorem QAC{c:Lc}{st:List A}{m:Tr A}{a:Act}(k:RS c β st m a.tmps)(hg:Gl β n)(x:Operand)(b:A)(e:ev c x st m=some b):V β b=some (a.eval x):=by
 cases x with
 |tmp t =>
  obtain⟨v,h,i⟩:=k t b e;show _=some (a.tmps.getD t undef);simp_all
 |const v=>cases aa (show some _=some b from e);exact QG4 β v
 |global g =>
  unfold ev oaD at e;simp only[ZX]at e;split at e
  ·rename_i d;cases aa (show some _=some b from e);obtain⟨sz,h⟩:=hg.2 g (ae d);show(β _).map _=_;rw[h];rfl
  grind
 |func f=>cases aa (show some _=some b from e);rfl
theorem QGS(X:Nat->Bool)(t:Nat)(loc:List Nat)(a:A)(st:List A)(m:Tr A):(flD X (t::loc)).f (a::st) m=if X t then((flD X loc).f st m).put (some a) (po t)else(flD X loc).f st m:=by
 show(Bx.casesOn (motive:=fun _=>Bx (List A->Tr A->Tr A)) (flD X loc) (fun k=>cn _ ⟨fun st m=>aC st m fun a st=>(k st m).put (some a) (po t)⟩ ⟨fun st m=>aC st m fun _ st=>k st m⟩)).f _ m=_;cases flD X loc with
 |mk k =>
  cases X t<;>rfl
theorem QB1{m:Tr A}{t:Nat}(b:X t=true):∀ {loc:List Nat} {st:List A},st.length=loc.length->((flD X loc).f st m).get (po t)=ev ⟨X,loc⟩ (.tmp t) st m
 |[],[],_=>by rw[yY];rw[b];rfl
 |d::loc,a::st,c=>by
  have ih:=QB1 (m:=m) b (loc:=loc) (st:=st) (by simp_all);rw[QGS,jQ];by_cases e:d=t
  ·subst e;rw[if_pos b,Tr.yI,if_pos rfl]
  ·rw[if_neg e,<-ih];split
   ·grind[Tr.Iu,QBK]
   ·rfl
 |[],_::_,h=>by cases h
 |_::_,[],h=>by cases h
theorem QMa{m:Tr A}{b:Array Value}{loc:List Nat}{st:List A}(c:st.length=loc.length)(k:RS ⟨X,loc⟩ β st m b):Sl X β ((flD X loc).f st m) b:=fun t a e d=>k t a (by grind[QB1])
end
end Go.Ev
namespace Go.Ev
open Go.RowKit
structure OpF(P:Program)(F:Fence):Prop where
 op:Open F
 rd:∀ {l:Nat} {f:FuncId} {tmps:Array Value} {asg body:Code} {w:World} {R:Ending->World->Prop},RoundIn bV 0 P l f tmps asg body w R->RoundIn F 0 P l f tmps asg body w R
theorem cN(P:Program):OpF P bV:=⟨EE,fun h=>h⟩
theorem QDt(P:Program)(l:Nat):OpF P (Fence.wide.inRound l):=⟨Bb l,fun h=>h⟩
def Lb(lv:Nat)(h:Tr B):Prop:=∀q x,h.get q=some x->x.lv<=lv
def CaP(lv:Nat)(β:Be)(h:Tr B)(n:Po)(w:World)(r:R)(e:Ending)(w':World):Prop:=∃v β',e = .returned v/\V β' r.a=some v/\Mv lv β h n w β' r.h r.n w'
def Mg(P:Program)(lv:Nat)(g:FuncId)(args:List A)(h:Tr B)(n:Po)(r:R):Prop:=∀β w vs,Vs β args=some vs->Ok β h n w->Gl β n->Lb lv h ->
 (hasB P g=false/\∃v β' w',(callFunc g vs.toArray).run P w = .ok (.value v) w'/\V β' r.a=some v/\Mv lv β h n w β' r.h r.n w') \/
 ((callFunc g vs.toArray).run P w = .ok (.enter g vs.toArray) w/\Calls P g vs.toArray w (CaP lv β h n w r))
def RdS(P:Program)(lv:Nat)(l:Po)(args:List A)(h:Tr B)(n:Po)(r:R):Prop:=∀β w vs p,Vs β args=some vs->Ok β h n w->Gl β n->Lb lv h->β l=some p->YieldAt bV 0 P p.ZH vs.toArray w (CaP lv β h n w r)
def MeS(P:Program)(lv:Nat)(T:TypeId)(a:String)(args:List A)(h:Tr B)(n:Po)(r:R):Prop:=∀β w v vs,Vs β args=some (v::vs)->Ok β h n w->Gl β n->Lb lv h ->
 ∃g,(callMethod (.iface T v) a vs.toArray).run P w = .ok (.enter g (v::vs).toArray) w/\Calls P g (v::vs).toArray w (CaP lv β h n w r)
def IhS(P:Program)(ih:Ih):Prop:=∀tk r,ih tk=some r->match tk with
 |.ca lv g args h n=>Mg P lv g args h n r
 |.rd lv l args h n=>RdS P lv l args h n r
 |.me lv T a args h n=>MeS P lv T a args h n r
section
variable{P:Program}{β:Be}{c:Lc}{st:List A}{m:Tr A}{h:Tr B}{n:Po}{w:World}{lv:Nat}{r:R}{ih:Ih}{F:Fence}{a:Act}{Q:Exit->Act->World->Prop}{K:Act->World->Prop}
theorem QJ8{ρ:Operand->Value}(k:Ok β h n w){o:Op}(K:QKp o=false)(e:(vN P c o).f ih lv st m h n=some r)
  (E:∀z∈o.operands,∀a,ev c z st m=some a->V β a=some (ρ z)):Lo1 P lv β h n w o ρ r:=by
 unfold vN at e;split at e
 ·rename_i g hg;obtain⟨b,t,e⟩:=Qc (show bd _ (fun a=>rz a h n)=some r from e);obtain⟨F,J,e3⟩:=YM e;obtain⟨v,g1,y⟩:=QJF hg t E;exact⟨β,v,.value v,w,fun d p i j x=>y w d p i j x,.inl rfl,by simp_all,by grind[Mv.refl]⟩
 ·split at e
  ·rename_i g hg;obtain⟨b,t,e⟩:=Qc (show bd _ (fun a=>rz a h n)=some r from e);obtain⟨F,J,e3⟩:=YM e;obtain⟨v,g1,y⟩:=QJN k.ob hg t E;exact⟨β,v,.value v,w,fun d p i j x=>y d p i j x,.inl rfl,by simp_all,by grind[Mv.refl]⟩
  ·split at e
   ·rename_i g hg;obtain⟨q,t,e⟩:=Qc (show bd (g.f st m) (fun q=>nw q.1 q.2 lv h n)=some r from e);obtain⟨obj,sz,v,g1,y,L⟩:=QJL (h:=h) (n:=n) hg t E;obtain⟨F,H⟩:=cQ (w':=w.alloc obj) k e rfl ⟨rfl,rfl,rfl,trivial⟩ y;exact⟨_,v,.value v,_,fun d p i j x=>g1 d p i j x,.inl rfl,by grind[VP],H⟩
   grind[QL2]
theorem QF5{o:Op}(a:(vN P c o).f ih lv st m h n=some r):∀cl,o≠.defer cl:=fun cl e=>by subst e;cases a
theorem QFz(hF:OpF P F)(k:Ok β h n w)(hg:Gl β n)(hL:Lb lv h)(L:IhS P ih){o:Oper}(J:(vN P c o.op).f ih lv st m h n=some r)
  (Y:∀z∈o.op.operands,∀b,ev c z st m=some b->V β b=some (a.eval z))
  (hK:∀β' v w',V β' r.a=some v->Mv lv β h n w β' r.h r.n w'->K (a.put o.dst v) w'):o.wpIn F 0 P a w K Q:=by
 unfold Oper.wpIn;refine⟨fun f _=>hF.op.fn f,?_⟩;rw[fi F _ o (QF5 J)];cases hc:QKp o.op with
 |false =>
  obtain⟨β',v,nx,w',g1,E,U,g4⟩:=QJ8 k hc J Y;have:(execOp _ o).run P w = .ok nx w':=g1 o.dst _ o.pos _ _;rw[this];rcases E with rfl | ⟨rfl,rfl⟩
  ·exact hK β' v w' U g4
  ·exact hK β' undef w' U g4
 |true =>
  obtain⟨d,op,ty,H,X,gd⟩:=o;simp only at J hc Y hK ⊢;cases op with
  |call cl =>
   obtain⟨f,args,ts⟩:=cl;cases f with
   |value f =>
    obtain⟨x,h1,t⟩:=Qc (show bd (ev c f st m) (fun a=>bd (Hk c _ st m) fun xs=>match a with
     |.f g c=>ih _
     |.y r=>ih _
     |_=>none)=some r from J)
    obtain⟨xs,h2,q⟩:=Qc t;clear t J;have hx:=Y f (by simp[aj,aQ]) x h1;have hv:=Tb h2 fun z hz b e=>Y z (by grind[aj,aQ]) b e;have hd:F.depth.isSome=true->1<=0:=fun e=>by rw[hF.op.depth]at e;cases e
    have j:args.map a.eval=(args.toList.map a.eval).toArray:=by grind
    split at q
    ·rename_i g cap;obtain⟨cv,c1,c2⟩:=V_f hx;have i:(execOp a.eval ⟨d,.call ⟨.value f,args,ts⟩,ty,H,X,gd⟩).run P w=(callFunc g (args.toList.map a.eval++cv).toArray).run P w:=by
      simp only[execOp,resolve,c2,eW,ai,aw,af,invoke,j];simp
     rw[i];rcases L _ _ q β w _ (Tv hv c1) k hg hL with ⟨_,v,β',w',g1,E,U⟩ | ⟨g1,E⟩
     ·rw[g1];exact hK β' v w' E U
     ·rw[g1];refine⟨hd,hF.op.calls (E.mono ?_)⟩;rintro e w' ⟨v,β',rfl,U,g4⟩
      grind
    ·rename_i l;obtain⟨p,hp,c2⟩:=V_y hx;obtain⟨fn,tmps,asg,body,g1,E⟩:=L _ _ q β w _ p hv k hg hL hp;have i:(execOp a.eval ⟨d,.call ⟨.value f,args,ts⟩,ty,H,X,gd⟩).run P w = .ok (.round p.ZH fn tmps asg body) w:=by
      simp only[execOp,resolve,c2,eW,ai,aw,af,invoke,j];simp_all
     rw[i];refine⟨hd,hF.rd (E.mono ?_)⟩;rintro e w' ⟨v,β',rfl,U,g4⟩
     grind
    trivial
   |invoke f name =>
    obtain⟨x,h1,t⟩:=Qc (show bd (ev c f st m) (fun a=>bd (Hk c _ st m) fun xs=>match a with
     |.xi T v=>ih _
     |_=>none)=some r from J)
    obtain⟨xs,h2,q⟩:=Qc t;clear t J;have hx:=Y f (by simp[aj,aQ]) x h1;have hv:=Tb h2 fun z hz b e=>Y z (by grind[aj,aQ]) b e;have hd:F.depth.isSome=true->1<=0:=fun e=>by rw[hF.op.depth]at e;cases e
    have j:args.map a.eval=(args.toList.map a.eval).toArray:=by grind
    split at q
    ·rename_i T b;unfold V at hx;obtain⟨vb,b1,b2⟩:=Option.map_eq_some_iff.1 hx;obtain⟨g,g1,E⟩:=L _ _ q β w _ _ (Vr b1 hv) k hg hL;have i:(execOp a.eval ⟨d,.call ⟨.invoke f name,args,ts⟩,ty,H,X,gd⟩).run P w = .ok (.enter g (vb::args.toList.map a.eval).toArray) w:=by
      simp only[execOp,resolve,<-b2,ai,aw,af,invoke,j]
      grind
     rw[i];refine⟨hd,hF.op.calls (E.mono ?_)⟩;rintro e w' ⟨v,β',rfl,U,g4⟩
     grind
    trivial
   |_=>cases hc
  |_=>cases hc
theorem QLl(q:OpF P F)(k:Ok β h n w)(hg:Gl β n)(j:Lb lv h)(g:RS c β st m a.tmps)(d:IhS P ih){o:Oper}(i:(vN P c o.op).f ih lv st m h n=some r)
  (p:∀β' v w',V β' r.a=some v->Mv lv β h n w β' r.h r.n w'->K (a.put o.dst v) w'):o.wpIn F 0 P a w K Q :=
 QFz q k hg j d i (fun z _ b e=>QAC g hg z b e) p
end
end Go.Ev
namespace Go.Ev
open Go.RowKit
section
variable{P:Program}{X:Nat->Bool}{ih:Ih}{lv:Nat}{r:R}{h:Tr B}{n:Po}{m:Tr A}{st:List A}
theorem QBc{b l:List Oper}{o:Oper}{loc:List Nat}(c:(Md P X b (o::l) loc).f ih lv st m h n=some r):
    (∃r1,vQ b o=none/\(vN P ⟨X,loc⟩ o.op).f ih lv st m h n=some r1/\(Md P X b l (vL o.dst loc)).f ih lv (push o.dst r1.a st) m r1.h r1.n=some r) \/
    ∃g t,vQ b o=some g/\wanted ⟨X,loc⟩ g st m=some t /\
      ((t=true/\∃r1,(vN P ⟨X,loc⟩ o.op).f ih lv st m h n=some r1/\(Md P X b l (vL o.dst loc)).f ih lv (push o.dst r1.a st) m r1.h r1.n=some r) \/
       (t=false/\(vN P ⟨X,loc⟩ o.op).f=(vN P ⟨X,loc⟩ o.op).f/\(Md P X b l (vL o.dst loc)).f ih lv (push o.dst u0 st) m h n=some r)):=by
  have e:Md P X b (o::l) loc=(Bx.casesOn (Md P X b l _) (fun k=>match vQ b o with
    | none=>(match kj P ⟨X,loc⟩ o.op with
      | some g=>Bx.casesOn g fun g=>(match o.dst with
        | some _=>⟨fun ih lv st m h n=>bd (g st m) fun a=>k ih lv (a::st) m h n⟩
        | none=>⟨fun ih lv st m h n=>bd (g st m) fun _=>k ih lv st m h n⟩)
      | none=>Bx.casesOn (vN P ⟨X,loc⟩ o.op) fun f=>⟨fun ih lv st m h n=>bd (f ih lv st m h n) fun r=>k ih lv (push o.dst r.a st) m r.h r.n⟩)
    | some g=>Bx.casesOn (vN P ⟨X,loc⟩ o.op) fun f=>⟨fun ih lv st m h n=>bd (wanted ⟨X,loc⟩ g st m) fun t=>cn t (bd (f ih lv st m h n) fun r=>k ih lv (push o.dst r.a st) m r.h r.n) (k ih lv (push o.dst u0 st) m h n)⟩)):=rfl
  rw[e]at c;cases hk:Md P X b l _ with
  | mk k =>
  rw[hk]at c;simp only at c ⊢;cases hg:vQ b o with
  | none =>
    rw[hg]at c;refine .inl ?_;unfold vN;cases p:kj P ⟨X,loc⟩ o.op with
    | some g =>
      rw[p]at c;cases g with
      | mk g =>
      simp only at c ⊢;cases hd:o.dst with
      | some d =>
        rw[hd]at c;obtain⟨a,j,i⟩:=Qc (show bd _ (fun a=>k ih lv _ m h n)=some r from c);refine⟨⟨.nm,a,.lf,h,n⟩,trivial,?_,i⟩;rw[j];rfl
      | none =>
        rw[hd]at c;obtain⟨a,j,i⟩:=Qc (show bd _ (fun _=>k ih lv st m h n)=some r from c);refine⟨⟨.nm,a,.lf,h,n⟩,trivial,?_,i⟩;rw[j];rfl
    | none =>
      simp_all[vN,Qc,bd,push,trivial]
  | some g =>
    rw[hg]at c;refine .inr ?_;cases q:vN P ⟨X,loc⟩ o.op with
    | mk f =>
    obtain⟨t,j,i⟩:=Qc (show bd _ (fun t=>cn t _ _)=some r from c);refine⟨g,t,rfl,j,?_⟩;cases t with
    | true=>obtain⟨r1,h3,w⟩:=Qc i;simp_all
    | false=>exact .inr ⟨rfl,trivial,i⟩
end
section
variable{P:Program}{X:Nat->Bool}{ih:Ih}{lv:Nat}{F:Fence}{Q:Exit->Act->World->Prop}
theorem jk{β:Be}{loc:List Nat}{st:List A}{m:Tr A}{c:Array Oper}{o:Oper}{f:Array Value}{g:Option Nat×Bool}(w:∀d,g.1=some d->∀a,ev ⟨X,loc⟩ (.tmp d) st m=some a->∃v,V β a=some v/\f[d]?=some v){t:Bool}(hg:vQ c.toList o=some g)(e:wanted ⟨X,loc⟩ g st m=some t):
  aK o (yielded c f)=t:=by
 unfold vQ at hg;split at hg
 ·cases hg
 ·rename_i j i y;have h:=(aa hg).symm;subst h;obtain⟨d,q,e⟩:=Qc e;obtain⟨k,E,h3⟩:=Qc (show bd c.toList[j]? _=some d from q);obtain⟨a,z,e⟩:=Qc e;obtain⟨v,g1,F⟩:=w d q a z;have p:∀b:Option Bool,(match some v with | some (.bool b)=>some b | _=>none)=b->yielded c f j=b:=fun b hb=>by
   unfold yielded;have:c[j]?=some k:=by simpa using E
   rw[this];show(match Option.bind k.dst fun x=>f[x]? with | some (.bool b)=>some b | _=>none)=b;rw[h3];show(match f[d]? with | some (.bool b)=>some b | _=>none)=b;rw[F];exact hb
  unfold aK;rw[y];simp only;split at e
  ·cases aa e;rw[V_b g1]at p;simp_all
  ·cases aa e;cases aa (show some undef=some v from g1);rw[p none rfl];rfl
  trivial
theorem QDe{β:Be}{loc:List Nat}{st:List A}{m:Tr A}{b:Array Oper}{o:Oper}{c:Array Value}(h:RS ⟨X,loc⟩ β st m c){g:Option Nat×Bool}{t:Bool}(hg:vQ b.toList o=some g)(f:wanted ⟨X,loc⟩ g st m=some t):
  aK o (yielded b c)=t:=jk (fun d _ a e=>h d a e) hg f
theorem L4(a:Act)(d:Option Tmp)(v:Value):(a.put d v).tmps.size=a.tmps.size:=by cases d<;>simp[Act.put]
theorem gM(a:Act)(d:Option Tmp)(v:Value):(a.put d v).defers=a.defers:=by cases d<;>rfl
theorem RS.put{β:Be}{loc:List Nat}{st:List A}{m:Tr A}{a:Act}(k:RS ⟨X,loc⟩ β st m a.tmps){d:Option Tmp}(hd:dOk a.tmps.size d=true){b:A}{v:Value}(hv:V β b=some v):RS ⟨X,vL d loc⟩ β (Go.Ev.push d b st) m (a.put d v).tmps:=by
 cases d with
 |none=>exact k
 |some d=>exact k.push (ae hd) hv
theorem cE{d:Option Tmp}{b:A}{st:List A}{loc:List Nat}(h:st.length=loc.length):(push d b st).length=(vL d loc).length:=by
 cases d with
 |none=>exact h
 |some d=>show st.length+1=loc.length+1;rw[h]
theorem OE(z:OpF P F)(d:IhS P ih){b:Array Oper}{N:Nat}:∀ {l:List Oper} {loc:List Nat} {st:List A} {m:Tr A} {h:Tr B} {n:Po} {β:Be} {a:Act} {w:World} {r:R},
  (Md P X b.toList l loc).f ih lv st m h n=some r->(l.all fun o=>dOk N o.dst)=true->a.tmps.size=N->Ok β h n w->Gl β n->Lb lv h->RS ⟨X,loc⟩ β st m a.tmps->st.length=loc.length ->
  (∀β' a' w',r.e = .nm->Sl X β' r.m a'.tmps->a'.tmps.size=N->a'.defers=a.defers->Mv lv β h n w β' r.h r.n w'->Q .normal a' w')->wpListIn F 0 P b Q l a w
 |[],loc,st,m,h,n,β,a,w,r,k,_,hN,hk,hg,_,j,x,y=>by
  have k:(Bx.casesOn (motive:=fun _=>Bx Fo) (flD X loc) (fun f=>⟨fun _ _ st m h n=>some ⟨.nm,u0,f st m,h,n⟩⟩)).f ih lv st m h n=some r:=k;cases hf:flD X loc with
  |mk f =>
  rw[hf]at k;cases aa (show some (⟨.nm,u0,f st m,h,n⟩:R)=some r from k);have:=QMa x j;rw[hf]at this;exact y β a w rfl this hN rfl (Mv.refl hk)
 |o::l,loc,st,m,h,n,β,a,w,r,k,hd,hN,hk,hg,hL,j,x,y=>by
  rw[bB,aq]at hd;unfold wpListIn;have go1:∀i,(vN P ⟨X,loc⟩ o.op).f ih lv st m h n=some i->(Md P X _ l _).f ih lv _ m i.h i.n=some r->o.wpIn F 0 P a w (wpListIn F 0 P b Q l) Q:=fun i E p =>
   QLl z hk hg hL j d E fun β' v w' g1 q=>by
    have Y:=q.be hk;exact OE z d p hd.2 (by grind[L4]) q.ok (hg.mv q) (q.dC lv (ar _) hL) ((j.le Y).put (by simp_all) g1) (cE x) fun β'' a' c U L K J H=>y β'' a' c U L K (by rw[J,gM]) (q.trans H)
  rcases QBc k with ⟨i,h0,E,p⟩ | ⟨g,t,h0,E,p⟩
  ·have:aK o (yielded b a.tmps)=true:=by
    grind[aK,vQ]
   simp_all
  ·have hw:=QDe j h0 E;rcases p with ⟨rfl,i,p,h3⟩ | ⟨rfl,_,h3⟩
   ·simp_all
   ·rw[if_neg (by simp_all)];refine⟨fun f _=>z.op.fn f,?_⟩;exact OE z d h3 hd.2 (by grind[L4]) hk hg hL (j.put (by simp_all) QNh) (cE x) fun β'' a' c U L K J H=>y β'' a' c U L K (by rw[J,gM]) H
end
end Go.Ev
namespace Go.Ev
open Go.RowKit
theorem QCH(m t:Nat):bit m t=m.testBit t:=by
 have a:eM (aZ m t) 1=(m >>> t)%2:=Nat.and_one_is_mod _;unfold bit;rw[a,Nat.testBit_eq_decide_div_mod_eq,bP];have:=Nat.mod_two_eq_zero_or_one (m/2^t);rcases this with h | h<;>rw[h]<;>rfl
theorem FH(a b t:Nat):bit (eB a b) t=(bit a t||bit b t):=by
 simp[QCH,Nat.testBit_or]
theorem p4(k t:Nat):bit (bD 1 k) t=decide (k=t):=by
 simp[QCH,bD,Nat.one_shiftLeft,Nat.testBit_two_pow]
theorem QGw(t:Nat):bit 0 t=false:=by simp[QCH,Nat.zero_testBit]
theorem pR{a:List Nat}{j:Nat}:∀ {es:List Edge},bit (dmA a es) j=true->∃e∈es,aT .any e=true/\(e.on=j\/bit (a.getD e.on 0) j=true)
 |[],h=>by rw[show dmA a []=0 from rfl,QGw]at h;cases h
 |e::es,h=>by
  have d:dmA a (e::es)=cn _ _ _:=rfl;rw[d,ZX]at h;split at h
  ·rw[FH,FH,p4,bF,bF]at h;rcases h with h | h | h
   ·obtain⟨x,c,b⟩:=pR h;grind
   all_goals simp_all
  ·obtain⟨x,c,b⟩:=pR h;grind
theorem QGc{a:List Nat}{j:Nat}{e:Edge}:∀ {es:List Edge},e∈es->aT .any e=true->(e.on=j\/bit (a.getD e.on 0) j=true)->bit (dmA a es) j=true
 |x::es,h,hb,b=>by
  have c:dmA a (x::es)=cn _ (eB (dmA a es) _) (dmA a es):=rfl;rw[c,ZX];rcases List.mem_cons.1 h with rfl | h
  ·rw[if_pos hb,FH,FH,p4];simp_all
  ·have:=QGc h hb b;split
   ·rw[FH,this];rfl
   omega
theorem QDS:∀(l:List Oper) (acc:List Nat),∃r,uR l acc=acc++r/\r.length=l.length
 |[],acc=>⟨[],by show acc=_;simp,rfl⟩
 |o::l,acc=>by
  obtain⟨r,b,a⟩:=QDS l (acc++[dmA acc o.after.toList]);simp_all[dmA,uR]
theorem QGb:∀(l:List Oper) (acc:List Nat) (i:Nat) (o:Oper),l[i]?=some o->(uR l acc).getD (acc.length+i) 0=dmA ((uR l acc).take (acc.length+i)) o.after.toList
 |[],acc,i,o,h=>by cases h
 |x::l,acc,0,o,h=>by
  cases aa h;obtain⟨r,a,_⟩:=QDS l (acc++[dmA acc x.after.toList]);simp_all[uR,dmA]
 |x::l,acc,i+1,o,h=>by
  have:=QGb l (acc++[dmA acc x.after.toList]) i o (by trivial);rw[aF,List.length_singleton,bS,Nat.add_comm 1 i]at this;exact this
theorem getD_take{l:List Nat}{n i:Nat}(h:i<n):(l.take n).getD i 0=l.getD i 0:=by
 simp_all
structure Rg(P:Program)(ops:List Oper)(D:Nat->Nat):Prop where
 lt:∀ {k j},k<ops.length->bit (D k) j=true->j<k
 ex:∀ {k j:Nat} {o:Oper},ops[k]?=some o->bit (D k) j=true->∃e∈o.after.toList,aT .any e=true/\(e.on=j\/bit (D e.on) j=true)
 mkk:∀ {k j:Nat} {o:Oper},ops[k]?=some o->∀e∈o.after.toList,aT .any e=true->(e.on=j\/bit (D e.on) j=true)->bit (D k) j=true
 on:∀ {k:Nat} {o:Oper},ops[k]?=some o->∀e∈o.after.toList,aT .any e=true->e.on<k
 sl:∀ {k:Nat} {o:Oper} {t:Nat},ops[k]?=some o->t∈slotsOf ops o->t<1000000
 ds:∀ {i j:Nat} {o q:Oper} {d:Nat},ops[i]?=some o->ops[j]?=some q->i≠j->q.dst=some d->o.dst≠some d
 rd:∀ {i j:Nat} {o q:Oper} {d:Nat},ops[i]?=some o->ops[j]?=some q->i≠j->q.dst=some d->d∈slotsOf ops o->bit (D i) j=true\/bit (D j) i=true
 ld:∀ {i j:Nat} {o q:Oper},ops[i]?=some o->ops[j]?=some q->i<j->V9 P o.op=true->V9 P q.op=true->bit (D j) i=true
theorem QKC{P:Program}{a:List Oper}(h:okR P a (uR a []) (a.map fun o=>V9 P o.op)=true):Rg P a (fun k=>(uR a []).getD k 0):=by
 unfold okR at h;rw[az]at h;have m:∀ {i o},a[i]?=some o->(∀e∈o.after.toList,aT .any e=true->e.on<i)/\(∀t∈slotsOf a o,t<1000000)/\∀ {j q},a[j]?=some q->i≠j ->
   (∀t,q.dst=some t->o.dst≠some t/\(t∈slotsOf a o->bit ((uR a []).getD i 0) j=true\/bit ((uR a []).getD j 0) i=true))/\(i<j->V9 P o.op=true->V9 P q.op=true->bit ((uR a []).getD j 0) i=true):=fun {i o} b=>by
  have f:=(List.getElem?_eq_some_iff.1 b).1;have g:=h i (List.mem_range.2 f);rw[b]at g;simp only[aq,az]at g;refine⟨fun e z hb=>?_,fun t w=>ae (g.2.1 t w),fun {j q} d c=>?_⟩
  ·have:=g.1 e z;rw[hb]at this;exact ae (by trivial)
  ·have y:=(List.getElem?_eq_some_iff.1 d).1;have p:=g.2.2 j (List.mem_range.2 y);rw[d]at p;simp only[bF,aq]at p;rcases p with p | ⟨p,L⟩
   ·simp_all
   ·refine⟨fun t w=>?_,fun m K h3=>?_⟩
    ·rw[w]at p;simp only[aq,bF,ew,List.any_eq_false]at p
     grind[ao,bz,absurd]
    grind[V9,List.getD,aB]
 have E:∀ {k o},a[k]?=some o->(uR a []).getD k 0=dmA ((uR a []).take k) o.after.toList:=fun {k o} b=>by
  have:=QGb a [] k o b;simp_all
 have x:∀ {k j o},a[k]?=some o->bit ((uR a []).getD k 0) j=true->∃e∈o.after.toList,aT .any e=true/\(e.on=j\/bit ((uR a []).getD e.on 0) j=true):=fun {k j o} b hb=>by
  grind[pR,getD_take]
 refine⟨fun {k j} hk hb=>?_,x,fun {k j o} b e z hb J=>?_,fun b=>(m b).1,fun b w=>(m b).2.1 _ w,fun b d c hd=>(((m b).2.2 d c).1 _ hd).1,fun b d c hd=>(((m b).2.2 d c).1 _ hd).2,fun b d c=>((m b).2.2 d (by omega)).2 c⟩
 ·induction k using eG generalizing j with
  |_ k ih =>
   obtain⟨o,b⟩:∃o,a[k]?=some o:=⟨a[k],by simp⟩;obtain⟨e,H,F,e3⟩:=x b hb;have f:=(m b).1 e H F;rcases e3 with e3 | e3
   ·omega
   ·have:=ih e.on f (by omega) e3;omega
 grind[QGc,getD_take]
theorem Rg.tr{P:Program}{E:List Oper}{D:Nat->Nat}(g:Rg P E D){k j i:Nat}(hk:k<E.length)(L:bit (D k) j=true)(U:bit (D j) i=true):bit (D k) i=true:=by
 induction k using eG with
 |_ k ih =>
  obtain⟨o,F⟩:∃o,E[k]?=some o:=⟨E[k],by simp⟩;obtain⟨e,J,H,e3⟩:=g.ex F L;have K:=g.on F e J H;refine g.mkk F e J H (.inr ?_)
  grind
end Go.Ev
namespace Go.Ev
open Go.RowKit
noncomputable def rs (β:Be) (n:Po):Be:=fun q=>if q.n<n.n then β q else none
theorem GL(β:Be)(n:Po):Be.le (rs β n) β:=fun q p h=>by
 grind[rs]
theorem Ei{β β':Be}{n a:Po}(h:n.n<=a.n)(k:∀q:Po,q.n<n.n->∀p,β q=some p->β' q=some p):Be.le (rs β n) (rs β' a):=fun q p e=>by
 unfold rs at e ⊢
 grind
theorem vI{β:Be}{n q:Po}(h:q.n<n.n):rs β n q=β q:=if_pos h
theorem QLg{β:Be}{n q:Po}(h:n.n<=q.n):rs β n q=none:=if_neg (by omega)
theorem gz{β:Be}{n q:Po}(h:nmP n q=true){f:Pl->Value}{v:Value}(e:(β q).map f=some v):(rs β n q).map f=some v:=by
 rw[vI (ae h)];exact e
mutual
theorem QBW{β:Be}{n:Po}:∀(a:A) (v:Value),nmB n a=true->V β a=some v->V (rs β n) a=some v
 |.i _ _,_,_,e=>e
 |.b _,_,_,e=>e
 |.s _,_,_,e=>e
 |.k _,_,_,e=>e
 |.p q _,_,h,e=>by unfold nmB at h;exact gz h e
 |.l q _ _ _,_,h,e=>by unfold nmB at h;exact gz h e
 |.o q _ _ _,_,h,e=>by
  unfold nmB at h;unfold V at e ⊢;rw[vI (ae h)];exact e
 |.m q,_,h,e=>by unfold nmB at h;exact gz h e
 |.y q,_,h,e=>by unfold nmB at h;exact gz h e
 |.f _ l,_,h,e=>by
  unfold nmB at h;unfold V at e ⊢;obtain⟨r,d,c⟩:=Option.map_eq_some_iff.1 e;rw[jM l r h d];exact congrArg some c
 |.g l,_,h,e=>by
  unfold nmB at h;unfold V at e ⊢;obtain⟨r,d,c⟩:=Option.map_eq_some_iff.1 e;rw[jM l r h d];exact congrArg some c
 |.t l,_,h,e=>by
  unfold nmB at h;unfold V at e ⊢;obtain⟨r,d,c⟩:=Option.map_eq_some_iff.1 e;rw[jM l r h d];exact congrArg some c
 |.xi _ b,_,h,e=>by
  unfold nmB at h;unfold V at e ⊢;obtain⟨r,d,c⟩:=Option.map_eq_some_iff.1 e;rw[QBW b r h d];exact congrArg some c
theorem jM{β:Be}{n:Po}:∀(l:List A) (vs:List Value),QDu n l=true->Vs β l=some vs->Vs (rs β n) l=some vs
 |[],_,_,e=>e
 |a::l,vs,h,e=>by
  unfold QDu at h;rw[aq]at h;obtain⟨v,r,c,b,rfl⟩:=XY e;exact Vr (QBW a v h.1 c) (jM l r h.2 b)
end
theorem QE8{a b:Value}(h:QE9 a b=true):a=b:=by
 unfold QE9 at h;split at h
 all_goals simp_all
mutual
theorem Ml:∀(a b:A),same a b=true->a=b
 |.i k n,b,h=>by
  unfold same at h;cases b<;>simp only[aq,au]at h;obtain⟨e,d⟩:=h;rw[Y2 e];rw[eqI_eq,beq_iff_eq]at d;rw[d]
 |.b x,b,h=>by
  unfold same at h;cases b<;>simp only[au]at h;rw[beq_iff_eq]at h;rw[h]
 |.s x,b,h=>by
  unfold same at h;cases b<;>simp only[au]at h;rw[eqL_eq h]
 |.k x,b,h=>by
  unfold same at h;cases b<;>simp only[au]at h;rw[QE8 h]
 |.p n o,b,h=>by
  unfold same at h;cases b<;>simp only[aq,au]at h;rw[Po.eq_eq h.1,ah h.2]
 |.l n o x y,b,h=>by
  unfold same at h;cases b<;>simp only[aq,au]at h;rw[Po.eq_eq h.1,ah h.2.1,ah h.2.2.1,ah h.2.2.2]
 |.o n o x y,b,h=>by
  unfold same at h;cases b<;>simp only[aq,au]at h;rw[Po.eq_eq h.1,ah h.2.1,ah h.2.2.1,ah h.2.2.2]
 |.m n,b,h=>by
  unfold same at h;cases b<;>simp only[au]at h;rw[Po.eq_eq h]
 |.y n,b,h=>by unfold same at h;cases b<;>simp only[au]at h
 |.f g l,b,h=>by
  unfold same at h;cases b<;>simp only[aq,au]at h;rw[ah h.1,N0 _ _ h.2]
 |.g l,b,h=>by
  unfold same at h;cases b<;>simp only[au]at h;rw[N0 _ _ h]
 |.t l,b,h=>by
  unfold same at h;cases b<;>simp only[au]at h;rw[N0 _ _ h]
 |.xi T c,b,h=>by
  unfold same at h;cases b<;>simp only[aq,au]at h;rw[ah h.1,Ml _ _ h.2]
theorem N0:∀(l r:List A),Ul l r=true->l=r
 |[],[],_=>rfl
 |a::l,b::r,h=>by
  unfold Ul at h;rw[aq]at h;rw[Ml a b h.1,N0 l r h.2]
 |[],_::_,h=>by unfold Ul at h;cases h
 |_::_,[],h=>by unfold Ul at h;cases h
end
theorem QIt{a:Nat}{q:Po}{b:B}:∀ {v:Vw},(act a v).get q=some b->(∃x∈v.pd,bit a x.j=true/\x.n=q/\x.b=b)\/v.h.get q=some b:=by
 rintro⟨h,c⟩ hb
 induction c with
 |nil=>exact .inr hb
 |cons x c ih =>
  have e:act a ⟨h,x::c⟩=cn _ ((act a ⟨h,c⟩).put _ x.n) (act a ⟨h,c⟩):=rfl
  grind[ZX,Tr.K4,aa]
theorem QG2{q:Po}{b:B}:∀ {v:Vw},(QEW v).get q=some b->(∃x∈v.pd,x.n=q/\x.b=b)\/v.h.get q=some b:=by
 rintro⟨h,a⟩ hb
 induction a<;>grind[Tr.K4,QEW,aa]
theorem gH{a:Nat}{x:Pn}:∀ {pd:List Pn},x∈rst a pd->x∈pd/\bit a x.j=false
 |[],h=>by cases h
 |y::pd,h=>by
  have e:rst a (y::pd)=cn _ _ _:=rfl;rw[e,ZX]at h;split at h
  ·obtain⟨c,b⟩:=gH h;simp_all
  ·rcases List.mem_cons.1 h with rfl | h
   ·simp_all
   ·obtain⟨c,b⟩:=gH h;simp_all
theorem QCC{b:Nat}{v:Vw}{x:Ms}:∀ {ms:List Ms},ckM b v ms=true->x∈ms->bit b x.j=true\/x.g (act x.mask v)=some x.a
 |y::ms,h,hx=>by
  have e:ckM b v (y::ms)=cn _ _ _:=rfl;rw[e,ZX]at h;split at h
  ·rcases List.mem_cons.1 hx with rfl | hx
   ·simp_all
   ·exact QCC h hx
  ·cases hg:y.g (act y.mask v)with
   |none=>simp_all
   |some a =>
    rw[hg]at h;replace h:cn _ _ false=true:=h;rw[ZX]at h;split at h
    ·rcases List.mem_cons.1 hx with rfl | hx
     ·grind[Ml]
     ·exact QCC h hx
    grind
theorem QGl{g:Tr B->Option A}{c:Nat}{a:A}{x:Hv}:∀ {l l':List Hv},ckE g c a (l++x::l')=true->(∀y∈l,bit c y.j=false)->bit c x.j=false->g (act c x.v)=some a
 |[],l',h,_,hx=>by
  have e:ckE g c a ([]++x::l')=cn _ true _:=rfl;rw[e,ZX,hx,if_neg (by decide)]at h;cases hg:g _ with
  |none=>simp_all
  |some b =>
   rw[hg]at h
   grind[cn,same,ckE,ZX,Ml]
 |y::l,l',h,d,hx=>by
  have e:ckE g c a (y::l++x::l')=cn _ true _:=rfl;rw[e,ZX,d y (by simp),if_neg (by decide)]at h;cases hg:g (act c y.v)with
  |none=>simp_all
  |some b =>
   rw[hg]at h;replace h:cn _ _ false=true:=h;rw[ZX]at h;split at h
   ·exact QGl h (fun z f=>d z (by grind)) hx
   grind
end Go.Ev
namespace Go.Ev
open Go.RowKit
section
variable{P:Program}
theorem QNN(c a:Lc)(o:Op):(kj P c o).isNone=(kj P a o).isNone:=by
 unfold kj;split<;>first | rfl | grind
theorem QNV(c a:Lc)(o:Op):(gv P c o).isNone=(gv P a o).isNone:=by
 unfold gv;split<;>first | rfl | grind
theorem QNS(c a:Lc)(o:Op):(neD P c o).isNone=(neD P a o).isNone:=by
 unfold neD;grind
theorem TL(c:Lc)(o:Op):V9 P o=((kj P c o).isNone&&(gv P c o).isNone&&(neD P c o).isNone):=by
 grind[V9,QNN,QNV,QNS]
def Wnt(X:Nat->Bool)(a:List Oper)(loc:List Nat)(o:Oper)(st:List A)(m:Tr A):Prop:=vQ a o=none\/∃g,vQ a o=some g/\wanted ⟨X,loc⟩ g st m=some true
inductive SK(P:Program)(ih:Ih)(lv:Nat)(m:Tr A)(X:Nat->Bool)(ops:List Oper)(i dm:Nat)(lt:Bool)(loc:List Nat)(o:Oper)(z:Z):Z->Prop
 |off (g:Option Nat×Bool) (h1:vQ ops o=some g) (h2:wanted ⟨X,loc⟩ g z.st m=some false):SK P ih lv m X ops i dm lt loc o z ⟨u0::z.st,z.v,z.n,(cn (V9 P o.op) (⟨i,z.v⟩::z.hs) z.hs),z.ms⟩
 |pu (g:Bx Ac) (a:A) (h0:Wnt X ops loc o z.st m) (h1:kj P ⟨X,loc⟩ o.op=some g) (h2:g.f z.st m=some a):SK P ih lv m X ops i dm lt loc o z ⟨a::z.st,z.v,z.n,z.hs,z.ms⟩
 |me (g:Bx Me) (a:A) (h0:Wnt X ops loc o z.st m) (h1:kj P ⟨X,loc⟩ o.op=none) (h2:gv P ⟨X,loc⟩ o.op=some g) (h3:g.f z.st m (act dm z.v)=some a) (h4:nmB z.n a=true) (h5:ckE (g.f z.st m) dm a z.hs=true):SK P ih lv m X ops i dm lt loc o z ⟨a::z.st,z.v,z.n,z.hs,cn lt (⟨i,g.f z.st m,dm,a⟩::z.ms) z.ms⟩
 |ne (g:Bx (List A->Tr A->Option (O×(Po->A)))) (q:O×(Po->A)) (h0:Wnt X ops loc o z.st m) (h1:kj P ⟨X,loc⟩ o.op=none) (h2:gv P ⟨X,loc⟩ o.op=none) (h3:neD P ⟨X,loc⟩ o.op=some g) (h4:g.f z.st m=some q):SK P ih lv m X ops i dm lt loc o z ⟨q.2 z.n::z.st,⟨z.v.h,⟨i,z.n,⟨q.1,lv⟩⟩::z.v.pd⟩,z.n.s,z.hs,z.ms⟩
 |lo (r:R) (h0:Wnt X ops loc o z.st m) (h1:V9 P o.op=true) (h2:(vN P ⟨X,loc⟩ o.op).f ih lv z.st m (act dm z.v) z.n=some r) (h3:ckM dm ⟨r.h,rst dm z.v.pd⟩ z.ms=true) (h4:z.n.n<=r.n.n):SK P ih lv m X ops i dm lt loc o z ⟨r.a::z.st,⟨r.h,rst dm z.v.pd⟩,r.n,⟨i,z.v⟩::z.hs,z.ms⟩
theorem ui{ih:Ih}{lv:Nat}{m:Tr A}{X:Nat->Bool}{j:List Oper}{i w:Nat}{lt:Bool}{loc:List Nat}{o:Oper}{z c:Z}(k:Wnt X j loc o z.st m)(h:(QCp P ⟨X,loc⟩ o.op i w lt).f ih lv m z=some c):SK P ih lv m X j i w lt loc o z c:=by
 unfold QCp at h;cases d:kj P ⟨X,loc⟩ o.op with
 |some g =>
  rw[d]at h;obtain⟨a,e,b⟩:=Qc (show bd _ (fun a=>some ⟨a::z.st,z.v,z.n,z.hs,z.ms⟩)=some c from h);cases aa b;exact .pu g a k d e
 |none =>
  rw[d]at h;cases hm:gv P ⟨X,loc⟩ o.op with
  |some g =>
   simp_all;obtain⟨a,e,b⟩:=Qc (show bd _ (fun a=>gu _<|gu _ _)=some c from h);obtain⟨h3,b⟩:=Q9 b;obtain⟨p,b⟩:=Q9 b;cases aa b;exact .me g a k d hm e h3 p
  |none =>
   simp_all;cases t:neD P ⟨X,loc⟩ o.op with
   |some g =>
    simp_all;obtain⟨q,e,b⟩:=Qc (show bd (g.f z.st m) (fun q=>some ⟨q.2 z.n::z.st,⟨z.v.h,⟨i,z.n,⟨q.1,lv⟩⟩::z.v.pd⟩,z.n.s,z.hs,z.ms⟩)=some c from h);cases aa b;exact .ne g q k d hm t e
   |none =>
    simp_all;obtain⟨r,e,b⟩:=Qc (show bd ((loD P ⟨X,loc⟩ o.op).f ih lv z.st m _ z.n) (fun r=>gu _<|gu _ _)=some c from h);obtain⟨p,b⟩:=Q9 b;obtain⟨h3,b⟩:=Q9 b;cases aa b;refine .lo r k (by rw[TL ⟨X,loc⟩,d,hm,t];rfl) ?_ h3 (ae p)
    grind[vN]
theorem QE1{ih:Ih}{lv:Nat}{m:Tr A}{X:Nat->Bool}{a:List Oper}{i e:Nat}{lt:Bool}{loc:List Nat}{o:Oper}{z b:Z}(h:(stepG P X loc a o i e lt).f ih lv m z=some b):SK P ih lv m X a i e lt loc o z b:=by
 unfold stepG at h;cases hg:vQ a o with
 |none=>rw[hg]at h;exact ui (.inl hg) h
 |some g =>
  rw[hg]at h;obtain⟨t,d,c⟩:=Qc (show bd _ (fun t=>cn t _ _)=some b from h);cases t with
  |true=>exact ui (.inr ⟨g,hg,d⟩) c
  |false=>cases aa (show some (⟨u0::z.st,z.v,z.n,(cn _ _ z.hs),z.ms⟩:Z)=some b from c);exact .off g hg d
theorem QAF{ih:Ih}{lv:Nat}{m:Tr A}{X:Nat->Bool}{a:List Oper}{D:List Nat}{b:List Bool}:∀ {l:List Oper} {k:Nat} {loc:List Nat} {z zL:Z},(QDP P X a D b l k loc).f ih lv m z=some zL ->
  ∃zf:Nat->Z,zf k=z/\zf (k+l.length)=zL/\∀i o,l[i]?=some o->SK P ih lv m X a (k+i) (D.getD (k+i) 0) (QEV b D (k+i)) (((l.take i).map yp).reverse++loc) o (zf (k+i)) (zf (k+i+1))
 |[],k,loc,z,zL,h=>by
  cases aa (show some z=some zL from h);exact⟨fun _=>z,rfl,rfl,fun i o d=>by cases d⟩
 |o::l,k,loc,z,zL,h=>by
  obtain⟨g,j,e⟩:=Qc (show bd ((stepG P X loc a o k (D.getD k 0) (QEV b D k)).f ih lv m z) (fun z=>(QDP P X a D b l (k+1) (yp o::loc)).f ih lv m z)=some zL from h);obtain⟨zf,t,q,e3⟩:=QAF e;refine⟨fun i=>if i=k then z else zf i,if_pos rfl,?_,fun i p c=>?_⟩
  ·grind
  ·cases i with
   |zero =>
    cases aa c<;>simp_all[eQ,if_true,if_neg,QE1]
   |succ i =>
    grind
end
end Go.Ev
namespace Go.Ev
open Go.RowKit
structure Tc where
 P:Program
 ih:Ih
 lv:Nat
 m:Tr A
 X:Nat->Bool
 ops:List Oper
 D:Nat->Nat
 lt:Nat->Bool
 zf:Nat->Z
namespace Tc
variable(c:Tc)
noncomputable section
def loc(i:Nat):List Nat:=((c.ops.take i).map yp).reverse
def cx(i:Nat):Lc:=⟨c.X,c.loc i⟩
def st(i:Nat):List A:=(c.zf i).st
def n(i:Nat):Po:=(c.zf i).n
def vw(i:Nat):Vw:=(c.zf i).v
def W(i:Nat)(o:Oper):Prop:=c.ops[i]?=some o/\Wnt c.X c.ops (c.loc i) o (c.st i) c.m
def Off(i:Nat):Prop:=∃o g,c.ops[i]?=some o/\vQ c.ops o=some g/\wanted (c.cx i) g (c.st i) c.m=some false/\c.zf (i+1)=⟨u0::c.st i,c.vw i,c.n i,(cn (V9 c.P o.op) (⟨i,c.vw i⟩::(c.zf i).hs) (c.zf i).hs),(c.zf i).ms⟩
def Pure(i:Nat):Prop:=∃o g a,c.W i o/\kj c.P (c.cx i) o.op=some g/\g.f (c.st i) c.m=some a/\c.zf (i+1)=⟨a::c.st i,c.vw i,c.n i,(c.zf i).hs,(c.zf i).ms⟩
def Rd(i:Nat)(g:Tr B->Option A)(a:A):Prop:=∃o g',c.W i o/\kj c.P (c.cx i) o.op=none/\gv c.P (c.cx i) o.op=some g'/\g=g'.f (c.st i) c.m/\g (act (c.D i) (c.vw i))=some a/\nmB (c.n i) a=true/\ckE g (c.D i) a (c.zf i).hs=true /\
 c.zf (i+1)=⟨a::c.st i,c.vw i,c.n i,(c.zf i).hs,cn (c.lt i) (⟨i,g,c.D i,a⟩::(c.zf i).ms) (c.zf i).ms⟩
def uI(i:Nat)(x:Pn):Prop:=∃o g q,c.W i o/\kj c.P (c.cx i) o.op=none/\gv c.P (c.cx i) o.op=none/\neD c.P (c.cx i) o.op=some g/\g.f (c.st i) c.m=some q/\x=⟨i,c.n i,⟨q.1,c.lv⟩⟩ /\
 c.zf (i+1)=⟨q.2 (c.n i)::c.st i,⟨(c.vw i).h,x::(c.vw i).pd⟩,(c.n i).s,(c.zf i).hs,(c.zf i).ms⟩
def Ld(i:Nat)(r:R):Prop:=∃o,c.W i o/\V9 c.P o.op=true/\(vN c.P (c.cx i) o.op).f c.ih c.lv (c.st i) c.m (act (c.D i) (c.vw i)) (c.n i)=some r/\ckM (c.D i) ⟨r.h,rst (c.D i) (c.vw i).pd⟩ (c.zf i).ms=true/\(c.n i).n<=r.n.n /\
 c.zf (i+1)=⟨r.a::c.st i,⟨r.h,rst (c.D i) (c.vw i).pd⟩,r.n,⟨i,c.vw i⟩::(c.zf i).hs,(c.zf i).ms⟩
structure Ok:Prop where
 rg:Rg c.P c.ops c.D
 sk:∀i o,c.ops[i]?=some o->SK c.P c.ih c.lv c.m c.X c.ops i (c.D i) (c.lt i) (c.loc i) o (c.zf i) (c.zf (i+1))
 hs:(c.zf 0).hs=[]
 ms:(c.zf 0).ms=[]
 pd:(c.zf 0).v.pd=[]
 st0:(c.zf 0).st=[]
 ltt:∀i l o,i<l->c.ops[l]?=some o->V9 c.P o.op=true->bit (c.D l) i=false->c.lt i=true
variable{c}
theorem Ok.step(k:c.Ok){i:Nat}(U:i<c.ops.length):c.Off i\/c.Pure i\/(∃g a,c.Rd i g a)\/(∃x,c.uI i x)\/∃r,c.Ld i r:=by
 obtain⟨o,J⟩:∃o,c.ops[i]?=some o:=⟨c.ops[i],by simp⟩;have h:=k.sk i o J;generalize e:c.zf (i+1)=z' at h;cases h with
 |off g F E=>exact .inl ⟨o,g,J,F,E,e⟩
 |pu g a H F E=>exact .inr (.inl ⟨o,g,a,⟨J,H⟩,F,E,e⟩)
 |me g a H F E h3 K L=>exact .inr (.inr (.inl ⟨_,a,o,g,⟨J,H⟩,F,E,rfl,h3,K,L,e⟩))
 |ne g q H F E h3 K=>exact .inr (.inr (.inr (.inl ⟨_,o,g,q,⟨J,H⟩,F,E,h3,K,rfl,e⟩)))
 |lo r H F E h3 K=>exact .inr (.inr (.inr (.inr ⟨r,o,⟨J,H⟩,F,E,h3,K,e⟩)))
theorem Ld.V9{i:Nat}{r:R}(h:c.Ld i r):∃o,c.ops[i]?=some o/\V9 c.P o.op=true:=by
 obtain⟨o,F,E,_⟩:=h;exact⟨o,F.1,E⟩
theorem Ok.n1(k:c.Ok){i:Nat}(E:i<c.ops.length):(c.n i).n<=(c.n (i+1)).n:=by
 rcases k.step E with ⟨o,g,_,_,_,e⟩ | ⟨o,g,a,_,_,_,e⟩ | ⟨g,a,o,F,_,_,_,_,_,_,_,e⟩ | ⟨x,o,g,q,_,_,_,_,_,_,e⟩ | ⟨r,o,_,_,_,_,h,e⟩<;>unfold Tc.n<;>rw[e]
 all_goals simp_all[ar,Po.n_s,Tc.n]
theorem Ok.uP(k:c.Ok){i j:Nat}(h:i<=j)(E:j<=c.ops.length):(c.n i).n<=(c.n j).n:=by
 induction j with
 |zero=>simp_all
 |succ j ih =>
  by_cases e:i=j+1
  ·simp_all
  ·exact aM (ih (by omega) (by omega)) (k.n1 (by omega))
theorem uI.n{i:Nat}{x:Pn}(h:c.uI i x):c.n (i+1)=(c.n i).s/\x.j=i/\x.n=c.n i/\x.b.lv=c.lv/\i<c.ops.length:=by
 obtain⟨o,g,q,E,_,_,_,_,F,e⟩:=h;subst F;exact⟨by unfold Tc.n;rw[e];rfl,rfl,rfl,rfl,(List.getElem?_eq_some_iff.1 E.1).1⟩
theorem Ok.QDB(k:c.Ok){i j:Nat}{x y:Pn}(h:c.uI i x)(F:c.uI j y)(e:x.n=y.n):i=j:=by
 obtain⟨a1,a2,a3,_,Y⟩:=h.n;obtain⟨X,U,L,_,K⟩:=F.n;have key:∀ {i j:Nat},c.n (i+1)=(c.n i).s->i<j->j<c.ops.length->(c.n i).n<(c.n j).n:=fun {i j} J E H=>by
  have:=k.uP (i:=i+1) (j:=j) (by omega) (by omega)
  grind[Po.n_s]
 rcases Nat.lt_trichotomy i j with g | g | g
 all_goals grind
theorem uI.uniq{i:Nat}{x y:Pn}(h:c.uI i x)(U:c.uI i y):x=y:=by
 obtain⟨o,g,q,h1,h2,h3,h4,h5,h6,_⟩:=h;obtain⟨Y,g',X,L,K,J,H,F,E,_⟩:=U;simp_all
theorem Ok.QHy(k:c.Ok){j:Nat}(hj:j<=c.ops.length){x:Pn}(hx:x∈(c.vw j).pd):x.j<j/\c.uI x.j x/\∀l r,c.Ld l r->l<j->bit (c.D l) x.j=false:=by
 induction j generalizing x with
 |zero=>unfold Tc.vw at hx;rw[k.pd]at hx;cases hx
 |succ j ih =>
  have old:∀ {y:Pn},y∈(c.vw j).pd->(∀r,¬c.Ld j r)->y.j<j+1/\c.uI y.j y/\∀l r,c.Ld l r->l<j+1->bit (c.D l) y.j=false:=fun {y} hy U=>by
   grind
  have quiet:∀o,c.ops[j]?=some o->(¬(kj c.P (c.cx j) o.op=none/\gv c.P (c.cx j) o.op=none/\neD c.P (c.cx j) o.op=none))->∀r,¬c.Ld j r:=fun o ho hq r J=>by
   obtain⟨Y,E,H⟩:=J.V9;rw[ho]at E;cases aa E;rw[TL (c.cx j)]at H;simp_all
  rcases k.step (i:=j) (by omega)with ⟨o,g,E,H,h3,e⟩ | ⟨o,g,a,E,H,_,e⟩ | ⟨g,a,o,g',E,_,H,_,_,_,_,e⟩ | ⟨y,U⟩ | ⟨r,o,E,H,h3,X,K,e⟩
  ·unfold Tc.vw at hx;rw[e]at hx;refine old hx fun r J=>?_;obtain⟨Y,F,_⟩:=J;obtain⟨X,K⟩:=F;rw[E]at X;cases aa X;rcases K with K | ⟨g',K,h6⟩
   all_goals grind[aa,Tc.cx]
  ·unfold Tc.vw at hx;rw[e]at hx;exact old hx (quiet o E.1 fun h=>by simp_all)
  ·unfold Tc.vw at hx;rw[e]at hx;exact old hx (quiet o E.1 fun h=>by simp_all)
  ·have L:=U;obtain⟨o,g,q,E,_,_,H,_,_,e⟩:=U;unfold Tc.vw at hx;rw[e]at hx;rcases List.mem_cons.1 hx with rfl | hx
   ·obtain⟨_,e2,_,_,_⟩:=L.n;refine⟨by omega,by simp_all,fun l r J hlt=>?_⟩;rw[e2];cases hb:bit _ j with
    |false=>rfl
    |true =>
     obtain⟨Y,F,_⟩:=J.V9;have:=k.rg.lt (List.getElem?_eq_some_iff.1 F).1 hb;omega
   ·exact old hx (quiet o E.1 fun h=>by simp_all)
  ·unfold Tc.vw at hx;rw[e]at hx;obtain⟨g1,g2⟩:=gH hx
   grind
theorem Ok.still(k:c.Ok){i j:Nat}(h:i<=j)(H:j<=c.ops.length)(E:∀l r,i<=l->l<j->¬c.Ld l r):(c.vw j).h=(c.vw i).h:=by
 induction j with
 |zero=>simp_all
 |succ j ih =>
  by_cases e:i=j+1
  ·simp_all
  ·have ih:=ih (by omega) (by omega) fun l r F J=>E l r F (by omega);rw[<-ih];rcases k.step (i:=j) (by omega)with ⟨o,g,_,_,_,e⟩ | ⟨o,g,a,_,_,_,e⟩ | ⟨g,a,o,g',_,_,_,_,_,_,_,e⟩ | ⟨x,o,g,q,_,_,_,_,_,_,e⟩ | ⟨r,hl⟩
   ·unfold Tc.vw;rw[e];rfl
   ·unfold Tc.vw;rw[e];rfl
   ·unfold Tc.vw;rw[e];rfl
   ·unfold Tc.vw;rw[e];rfl
   grind
theorem Ok.views(k:c.Ok){j l:Nat}{o:Oper}(hj:j<=c.ops.length)(hlj:l<j)(U:c.ops[l]?=some o)(hl:V9 c.P o.op=true):∃l1 l2,(c.zf j).hs=l1++⟨l,c.vw l⟩::l2/\∀y∈l1,l<y.j/\y.j<j/\∃o',c.ops[y.j]?=some o'/\V9 c.P o'.op=true:=by
 induction j with
 |zero=>omega
 |succ j ih =>
  obtain⟨L,H⟩:∃o,c.ops[j]?=some o:=⟨c.ops[j]'(by omega),by simp⟩;have J:(c.zf (j+1)).hs=(cn (V9 c.P L.op) (⟨j,c.vw j⟩::(c.zf j).hs) (c.zf j).hs):=by
   have h:=k.sk j L H;generalize e:c.zf (j+1)=z' at h;cases h with
   |off g E F=>rfl
   |pu g a K E F=>rw[TL ⟨c.X,c.loc j⟩,E];rfl
   |me g a K E F h3 Y h5=>rw[TL ⟨c.X,c.loc j⟩,E,F];rfl
   |ne g q K E F h3 Y=>rw[TL ⟨c.X,c.loc j⟩,E,F,h3];rfl
   |lo r K E F h3 Y=>rw[E];rfl
  by_cases e:l=j
  ·subst e;rw[H]at U;cases aa U;rw[J,hl];exact⟨[],_,rfl,fun y hy=>by cases hy⟩
  ·rw[J,ZX]
   grind
theorem Ok.marks(k:c.Ok){i j:Nat}{g:Tr B->Option A}{a:A}(h:c.Rd i g a)(E:c.lt i=true)(F:i<j)(J:j<=c.ops.length):⟨i,g,c.D i,a⟩∈(c.zf j).ms:=by
 induction j with
 |zero=>omega
 |succ j ih =>
  by_cases e:i=j
  ·subst e;obtain⟨o,H,_,_,_,_,_,_,_,e⟩:=h;rw[e,E];show _∈(⟨i,g,c.D i,a⟩:Ms)::_;simp
  ·have ih:=ih (by omega) (by omega);rcases k.step (i:=j) (by omega)with ⟨o,g,_,_,_,e⟩ | ⟨o,g,a,_,_,_,e⟩ | ⟨H,a',o,g'',_,_,_,_,_,_,_,e⟩ | ⟨x,o,g,q,_,_,_,_,_,_,e⟩ | ⟨r,o,_,_,_,_,_,e⟩
   ·simp_all
   ·simp_all
   ·rw[e];rw[ZX];grind
   all_goals simp_all
end
end Tc
end Go.Ev
namespace Go.Ev
open Go.RowKit
namespace Tc
variable{c:Tc}
noncomputable section
def val(c:Tc)(i:Nat):A:=match (c.zf (i+1)).st with | []=>u0 | a::_=>a
theorem Ok.st1(k:c.Ok){i:Nat}(E:i<c.ops.length):c.st (i+1)=c.val i::c.st i:=by
 unfold val Tc.st;rcases k.step E with ⟨o,g,_,_,_,e⟩ | ⟨o,g,a,_,_,_,e⟩ | ⟨g,a,o,F,_,_,_,_,_,_,_,e⟩ | ⟨x,o,g,q,_,_,_,_,_,_,e⟩ | ⟨r,o,_,_,_,_,_,e⟩<;>rw[e]<;>rfl
theorem QKj{i:Nat}{o:Oper}(a:c.ops[i]?=some o):c.loc (i+1)=yp o::c.loc i:=by
 grind[Tc.loc,List.take_succ]
theorem Ok.len(k:c.Ok){i:Nat}(E:i<=c.ops.length):(c.st i).length=(c.loc i).length:=by
 induction i with
 |zero=>unfold Tc.st Tc.loc;rw[k.st0];rfl
 |succ i ih =>
  have:c.ops[i]?=some (c.ops[i]'(by omega)):=by simp
  rw[k.st1 (by omega),QKj this];grind
theorem Ok.QDN(k:c.Ok){t:Nat}(H:t≠1000000){j:Nat}(J:j<=c.ops.length)(h:∀i o,i<j->c.ops[i]?=some o->o.dst≠some t):ev (c.cx j) (.tmp t) (c.st j) c.m=cn (c.X t) (c.m.get (po t)) none:=by
 induction j with
 |zero=>unfold Tc.cx Tc.st;rw[k.st0,yY];rfl
 |succ j ih =>
  have E:c.ops[j]?=some (c.ops[j]'(by omega)):=by simp
  unfold Tc.cx;rw[QKj E,k.st1 (by omega),jQ,if_neg]
  ·exact ih (by omega) fun i o K F=>h i o (by omega) F
  grind[yp]
theorem Ok.QDM(k:c.Ok){t i:Nat}{o:Oper}(F:c.ops[i]?=some o)(hd:o.dst=some t)(K:t≠1000000){j:Nat}(L:j<=c.ops.length)(H:i<j):ev (c.cx j) (.tmp t) (c.st j) c.m=some (c.val i):=by
 induction j with
 |zero=>omega
 |succ j ih =>
  have E:c.ops[j]?=some (c.ops[j]'(by omega)):=by simp
  unfold Tc.cx;rw[QKj E,k.st1 (by omega),jQ];by_cases e:i=j
  ·subst e;rw[F]at E;cases aa E<;>simp_all[if_pos,yp]
  ·rw[if_neg]
   ·exact ih (by omega) (by omega)
   ·have:=k.rg.ds E F (fun J=>e J.symm) hd
    grind[yp]
theorem Ok.QA8(k:c.Ok){i l:Nat}{g:Tr B->Option A}{a:A}{o:Oper}(h:c.Rd i g a)(E:l<i)(H:c.ops[l]?=some o)(J:V9 c.P o.op=true)(hb:bit (c.D i) l=false):g (act (c.D i) (c.vw l))=some a:=by
 obtain⟨oi,g',h1,h2,h3,h4,h5,h6,h7,h8⟩:=h;have Y:=(List.getElem?_eq_some_iff.1 h1.1).1;obtain⟨l1,l2,e1,e2⟩:=k.views (by omega) E H J;rw[e1]at h7;refine QGl h7 (fun y X=>?_) hb;obtain⟨U,y2,o',L,K⟩:=e2 y X;cases F:bit _ y.j with
 |false=>rfl
 |true =>
  have:=k.rg.ld H L U J K;rw[k.rg.tr Y F this]at hb;cases hb
theorem Ok.cA(k:c.Ok){i j:Nat}{g:Tr B->Option A}{a:A}(h:c.Rd i g a)(hij:i<j)(hj:j<=c.ops.length)(hb:∀l r,c.Ld l r->i<l->l<j->bit (c.D l) i=false):
  ∃j',j'<=j/\(c.vw j').h=(c.vw j).h/\(∀l r,c.Ld l r->j'<=l->l<j->False)/\g (act (c.D i) (c.vw j'))=some a:=by
 induction j with
 |zero=>omega
 |succ j ih =>
  by_cases e:i=j
  ·subst e;obtain⟨oi,g',K,Y,h3,X,U,h6,h7,h8⟩:=h;refine⟨i,by omega,by unfold Tc.vw;rw[h8];rfl,fun l r L J H=>?_,U⟩;have:l=i:=by omega
   subst this;obtain⟨o',g1,g2⟩:=L.V9;rw[K.1]at g1;grind[aa,TL]
  ·by_cases E:∃r,c.Ld j r
   ·obtain⟨r,E⟩:=E;have F:=hb j r E (by omega) (by omega);obtain⟨o,g1,g2⟩:=E.V9;have hm:=k.marks h (k.ltt i j o (by omega) g1 g2 F) (j:=j) (by omega) (by omega);obtain⟨o',K,Y,h3,X,U,h6⟩:=E;refine⟨j+1,ar _,rfl,fun l r' _ J H=>by omega,?_⟩;rcases QCC X hm with h7 | h7
    all_goals grind[Tc.vw]
   ·have hst:=k.still (i:=j) (by omega) hj fun l r K Y L=>by
     grind
    grind
end
end Tc
end Go.Ev
namespace Go.Ev
open Go.RowKit
namespace Tc
variable{c:Tc}
def PN(c:Tc)(done:Nat->Bool)(κ i:Nat)(x:Pn):Prop:=c.uI i x/\done i=true/\∀l r,c.Ld l r->l<κ->bit (c.D l) i=false
def InH(c:Tc)(done:Nat->Bool)(κ:Nat)(q:Po)(b:B):Prop:=(c.vw κ).h.get q=some b\/∃i x,PN c done κ i x/\x.n=q/\x.b=b
structure Js(c:Tc)(N:Nat)(ds:List Deferred)(done:Nat->Bool)(β:Be)(a:Act):Prop where
 size:a.tmps.size=N
 defs:a.defers=ds
 cl:∀i,i<c.ops.length->done i=true->∀j,bit (c.D i) j=true->done j=true
 sl:∀i o d,c.ops[i]?=some o->done i=true->o.dst=some d->∃v,V (rs β (c.n (i+1))) (c.val i)=some v/\a.tmps[d]?=some v
 cr:∀t b,c.X t=true->c.m.get (po t)=some b->(∀i o,c.ops[i]?=some o->done i=true->o.dst≠some t)->∃v,V (rs β (c.n 0)) b=some v/\a.tmps[t]?=some v
structure Jm(c:Tc)(β0:Be)(w0:World)(done:Nat->Bool)(κ:Nat)(β:Be)(w:World):Prop where
 kl:κ<=c.ops.length
 ku:∀l o,c.ops[l]?=some o->V9 c.P o.op=true->(done l=true↔l<κ)
 bl:∀q:Po,q.n<(c.n 0).n->β q=β0 q
 bn:∀i,i<c.ops.length->done i=false->∀q:Po,(c.n i).n<=q.n->q.n<(c.n (i+1)).n->β q=none
 bt:∀q:Po,(c.n c.ops.length).n<=q.n->β q=none
 ob:∀q b,(c.vw κ).h.get q=some b->∃p o,rs β (c.n κ) q=some p/\w.heap[p.ZH]?=some o/\Oo (rs β (c.n κ)) p o b.o
 pn:∀i x,PN c done κ i x->(c.vw κ).h.get x.n=none/\∃p o,rs β (c.n (i+1)) x.n=some p/\w.heap[p.ZH]?=some o/\Oo (rs β (c.n (i+1))) p o x.b.o/\w0.heap.size<=p.ZH
 inj:∀q q' b b' p p',InH c done κ q b->InH c done κ q' b'->β q=some p->β q'=some p'->p.ZH=p'.ZH->q=q'
 qt:jD w0 w
 sz:w0.heap.size<=w.heap.size
 fr:∀b,b<w0.heap.size->(∀q x p,(c.vw 0).h.get q=some x->c.lv<=x.lv->β0 q=some p->p.ZH≠b)->w.heap[b]?=w0.heap[b]?
 src:∀q x p,(c.vw κ).h.get q=some x->β q=some p->p.ZH<w0.heap.size->∃q0 c0 p0,(c.vw 0).h.get q0=some c0/\β0 q0=some p0/\p0.ZH=p.ZH/\(c.lv<=x.lv->c.lv<=c0.lv)
 dC:∀K,c.lv<=K->(∀q x,(c.vw 0).h.get q=some x->x.lv<=K)->∀q x,(c.vw κ).h.get q=some x->x.lv<=K
section
variable{N:Nat}{ds:List Deferred}{β0 β:Be}{w0 w:World}{done:Nat->Bool}{κ:Nat}{a:Act}
theorem Jm.all(j:Jm c β0 w0 done κ β w){q:Po}{b:B}(h:InH c done κ q b):∃p o,β q=some p/\w.heap[p.ZH]?=some o/\Oo β p o b.o:=by
 rcases h with h | ⟨i,x,h,rfl,rfl⟩
 ·obtain⟨p,o,F,E,h3⟩:=j.ob q b h;exact⟨p,o,GL _ _ _ _ F,E,h3.le (GL _ _)⟩
 ·obtain⟨_,p,o,F,E,h3,_⟩:=j.pn i x h;exact⟨p,o,GL _ _ _ _ F,E,h3.le (GL _ _)⟩
theorem Ok.part(k:c.Ok)(j:Jm c β0 w0 done κ β w){i j':Nat}(F:j'<=c.ops.length)(hv:(c.vw j').h=(c.vw κ).h)(J:∀l r,c.Ld l r->l<κ->l<j')(hd:∀t,bit (c.D i) t=true->done t=true){q:Po}{b:B}(h:(act (c.D i) (c.vw j')).get q=some b):
  (c.vw κ).h.get q=some b\/∃x,x.j<j'/\PN c done κ x.j x/\bit (c.D i) x.j=true/\x.n=q/\x.b=b:=by
 rcases QIt h with ⟨x,L,H,h3,K⟩ | h
 ·obtain⟨g1,X,U⟩:=k.QHy F L;exact .inr ⟨x,g1,⟨X,hd _ H,fun l r E h=>U l r E (J l r E h)⟩,H,h3,K⟩
 simp_all
theorem Ok.QKD(k:c.Ok)(j:Jm c β0 w0 done κ β w){i j':Nat}(E:j'<=c.ops.length)(hv:(c.vw j').h=(c.vw κ).h)(F:∀l r,c.Ld l r->l<κ->l<j')(hd:∀t,bit (c.D i) t=true->done t=true):Ob β (act (c.D i) (c.vw j')) w:=fun q b h=>by
 rcases k.part j E hv F hd h with h | ⟨x,_,J,_,h3,H⟩
 ·exact j.all (.inl h)
 ·exact j.all (.inr ⟨_,x,J,h3,H⟩)
theorem Ok.QNP(k:c.Ok)(j:Jm c β0 w0 done κ β w){i:Nat}(hi:i<c.ops.length)(K:κ<=i)(hn:∀l r,κ<=l->l<i->¬c.Ld l r)(hd:∀t,bit (c.D i) t=true->done t=true):Ev.Ok (rs β (c.n i)) (act (c.D i) (c.vw i)) (c.n i) w:=by
 have L:=fun q b h=>k.part (q:=q) (b:=b) j (by omega) (k.still K (by omega) hn) (fun l r _ h=>by omega) hd h;refine⟨fun q b h=>?_,fun q X b b' p Y h h' g g' e=>?_,fun q hq=>QLg hq⟩
 ·rcases L q b h with h | ⟨x,h1,F,_,h3,E⟩
  ·obtain⟨p,o,g1,J,H⟩:=j.ob q b h;have hm:Be.le _ (rs β _):=Ei (k.uP K (by omega)) fun _ _ _ h=>h;exact⟨p,o,hm _ _ g1,J,H.le hm⟩
  ·obtain⟨_,p,o,g1,J,H,_⟩:=j.pn _ x F;have hm:Be.le (rs β (c.n (x.j+1))) (rs β (c.n i)):=Ei (k.uP (by omega) (by omega)) fun _ _ _ h=>h;subst h3;subst E;exact⟨p,o,hm _ _ g1,J,H.le hm⟩
 ·have U:∀ {q b},(act _ _).get q=some b->InH c done κ q b:=fun {q b} h=>by
   rcases L q b h with h | ⟨x,_,F,_,h3,E⟩
   ·exact .inl h
   ·exact .inr ⟨_,x,F,h3,E⟩
  exact j.inj q X b b' p Y (U h) (U h') (GL _ _ _ _ g) (GL _ _ _ _ g') e
theorem Ok.slot(k:c.Ok)(s:Js c N ds done β a){i:Nat}{o:Oper}(Y:c.ops[i]?=some o)(hi:done i=false)(hd:∀t,bit (c.D i) t=true->done t=true){t:Nat}(ht:t∈slotsOf c.ops o){b:A}(e:ev (c.cx i) (.tmp t) (c.st i) c.m=some b):
  ∃v,V (rs β (c.n i)) b=some v/\a.tmps[t]?=some v:=by
 have hil:=(List.getElem?_eq_some_iff.1 Y).1;have h6:=Nat.ne_of_lt (k.rg.sl Y ht);have H:(∀i o,c.ops[i]?=some o->done i=true->o.dst≠some t)->(∀E o,E<i->c.ops[E]?=some o->o.dst≠some t)->∃v,V (rs β (c.n i)) b=some v/\a.tmps[t]?=some v:=fun K J=>by
  rw[k.QDN h6 (by omega) J,ZX]at e;split at e
  ·rename_i hX;obtain⟨v,g1,g2⟩:=s.cr t b hX e K;exact⟨v,qP (Ei (k.uP (aY _) (by omega)) fun _ _ _ h=>h) _ _ g1,g2⟩
  grind
 by_cases hx:∃(j:Nat) (q:Oper),c.ops[j]?=some q/\q.dst=some t
 ·obtain⟨j,q,U,F⟩:=hx;have X:=(List.getElem?_eq_some_iff.1 U).1;have uniq:∀ {E:Nat} {L:Oper},c.ops[E]?=some L->L.dst=some t->E=j:=fun {E L} K J=>by
   by_cases e:E=j
   ·exact e
   ·exact absurd J (k.rg.ds K U e F)
  by_cases hij:i=j
  ·grind
  ·rcases k.rg.rd Y U hij F ht with hb | hb
   ·have hji:=k.rg.lt hil hb;rw[k.QDM U F h6 (by omega) hji]at e;cases aa e;obtain⟨v,g1,g2⟩:=s.sl j q t U (hd j hb) F;exact⟨v,qP (Ei (k.uP (by omega) (by omega)) fun _ _ _ h=>h) _ _ g1,g2⟩
   ·have hlt:=k.rg.lt X hb;refine H (fun E L K J h3=>?_) (fun E L K J h3=>?_)
    ·have:=uniq K h3;subst this;rw[s.cl _ X J _ hb]at hi;cases hi
    grind
 grind
theorem Ok.gl(k:c.Ok)(j:Jm c β0 w0 done κ β w)(g:Gl β0 (c.n 0)){i:Nat}(F:i<=c.ops.length):Gl (rs β (c.n i)) (c.n i):=by
 have E:=k.uP (aY i) F;refine⟨aM g.1 E,fun x hx=>?_⟩;obtain⟨sz,e⟩:=g.2 x hx;have H:=ay (QJ4 hx) g.1;exact⟨sz,by rw[vI (by omega),j.bl _ H];exact e⟩
theorem Ok.oper(k:c.Ok)(s:Js c N ds done β a)(j:Jm c β0 w0 done κ β w)(g:Gl β0 (c.n 0)){i:Nat}{o:Oper}(F:c.ops[i]?=some o)(L:done i=false)(hd:∀t,bit (c.D i) t=true->done t=true):
  ∀z∈o.op.operands,∀b,ev (c.cx i) z (c.st i) c.m=some b->V (rs β (c.n i)) b=some (a.eval z):=fun z U b e=>by
 have K:=(List.getElem?_eq_some_iff.1 F).1;cases z with
 |tmp t =>
  have J:t∈slotsOf c.ops o:=by
   unfold slotsOf;rw[List.mem_append];exact .inl (List.mem_filterMap.2 ⟨.tmp t,by simp_all,rfl⟩)
  obtain⟨v,H,X⟩:=k.slot s F L hd J e;show _=some (a.tmps.getD t undef);simp_all
 |const v=>cases aa (show some _=some b from e);exact QG4 _ v
 |global x =>
  unfold ev oaD at e;simp only[ZX]at e;split at e
  ·rename_i E;cases aa (show some _=some b from e);obtain⟨sz,H⟩:=(k.gl j g (i:=i) (by omega)).2 x (ae E);show(rs β _ _).map _=_;rw[H];rfl
  grind
 |func f=>cases aa (show some _=some b from e);rfl
theorem Ok.guard(k:c.Ok)(s:Js c N ds done β a){i:Nat}{o:Oper}(F:c.ops[i]?=some o)(H:done i=false)(hd:∀t,bit (c.D i) t=true->done t=true){g:Option Nat×Bool}{t:Bool}(hg:vQ c.ops o=some g)(E:wanted (c.cx i) g (c.st i) c.m=some t):
  aK o (yielded c.ops.toArray a.tmps)=t:=by
 refine jk (fun d J b e=>k.slot s F H hd ?_ e) (by omega) E
 grind[slotsOf]
theorem Ok.wanted(k:c.Ok)(s:Js c N ds done β a){i:Nat}{o:Oper}(F:done i=false)(hd:∀t,bit (c.D i) t=true->done t=true)(E:c.W i o):aK o (yielded c.ops.toArray a.tmps)=true:=by
 rcases E.2 with h | ⟨g,J,H⟩
 ·grind[vQ,aK]
 ·exact k.guard s E.1 F hd J H
end
end Tc
end Go.Ev
namespace Go.Ev
open Go.RowKit
namespace Tc
variable{c:Tc}
def dn(done:Nat->Bool)(k:Nat):Nat->Bool:=fun i=>decide (i=k)||done i
theorem OU(done:Nat->Bool)(k:Nat):dn done k k=true:=by simp[dn]
theorem Ao{done:Nat->Bool}{k i:Nat}(h:i≠k):dn done k i=done i:=by simp[dn,h]
theorem QDR{done:Nat->Bool}{k i:Nat}(h:done i=true):dn done k i=true:=by simp[dn,h]
section
variable{N:Nat}{ds:List Deferred}{β0 β β':Be}{w0 w w':World}{done:Nat->Bool}{κ:Nat}{a:Act}
theorem Js.put(k:c.Ok)(s:Js c N ds done β a){i:Nat}{o:Oper}{v:Value}(L:c.ops[i]?=some o)(hd:∀t,bit (c.D i) t=true->done t=true)(hN:dOk N o.dst=true)(Y:Be.le β β')(hv:V (rs β' (c.n (i+1))) (c.val i)=some v):
  Js c N ds (dn done i) β' (a.put o.dst v):=by
 have PL:∀ {j q d},c.ops[j]?=some q->j≠i->q.dst=some d->(a.put o.dst v).tmps[d]?=a.tmps[d]?:=fun {j q d} H U F=>by
  have:=k.rg.ds L H (fun e=>U e.symm) F;cases K:o.dst with
  |none=>rfl
  |some X =>
   show(a.tmps.setIfInBounds X v)[d]?=_;simp_all
 refine⟨by rw[L4];exact s.size,by rw[gM];exact s.defs,fun j U E t ht=>?_,fun j q d H E F=>?_,fun t b hX hb J=>?_⟩
 ·by_cases e:j=i
  ·grind[QDR]
  ·rw[Ao e]at E;exact QDR (s.cl j U E t ht)
 ·by_cases e:j=i
  ·subst e;rw[L]at H;cases aa H;refine⟨v,hv,?_⟩;rw[F];rw[F]at hN;have:d<a.tmps.size:=by rw[s.size];exact ae hN
   show(a.tmps.setIfInBounds d v)[d]?=_
   grind
  ·rw[Ao e]at E;obtain⟨u,g1,g2⟩:=s.sl j q d H E F;exact⟨u,qP (Ei (ar _) fun q _ p h=>Y q p h) _ _ g1,by grind⟩
 ·obtain⟨u,g1,g2⟩:=s.cr t b hX hb fun j q H E=>J j q H (QDR E);refine⟨u,qP (Ei (ar _) fun q _ p h=>Y q p h) _ _ g1,?_⟩;have:=J i o L (OU done i);cases K:o.dst with
  |none=>exact g2
  |some X =>
   show(a.tmps.setIfInBounds X v)[t]?=_;simp_all
theorem Jm.move(k:c.Ok)(j:Jm c β0 w0 done κ β w){i κ':Nat}(Y:κ<=κ')(J:κ'<=c.ops.length)(hv:(c.vw κ').h=(c.vw κ).h)(hl:∀l r,c.Ld l r->l<κ->l<κ')(hu:∀l o,c.ops[l]?=some o->V9 c.P o.op=true->(dn done i l=true↔l<κ'))(hn:∀x,¬c.uI i x):Jm c β0 w0 (dn done i) κ' β w:=by
 have K:∀ {E x},PN c (dn done i) κ' E x->PN c done κ E x:=fun {E x} h=>by
  have:E≠i:=by rintro rfl;exact hn x h.1
  exact⟨h.1,by have:=h.2.1;grind[Ao],fun l r F H=>h.2.2 l r F (hl l r F H)⟩
 have L:∀ {q b},InH c _ κ' q b->InH c done κ q b:=fun {q b} h=>by
  rcases h with h | ⟨E,x,F,H,h3⟩
  ·exact .inl (by simp_all)
  ·exact .inr ⟨E,x,K F,H,h3⟩
 refine⟨J,hu,j.bl,fun E F H=>j.bn E F ?_,j.bt,fun q b h=>?_,fun E x h=>?_,fun q U b b' p X h h'=>j.inj q U b b' p X (L h) (L h'),j.qt,j.sz,j.fr,fun q x p h=>?_,by rw[hv];exact j.dC⟩
 ·cases hd:done E with
  |false=>rfl
  |true=>grind[QDR]
 ·rw[hv]at h;obtain⟨p,o,F,H,h3⟩:=j.ob q b h;have hm:Be.le _ (rs β _):=Ei (k.uP Y J) fun _ _ _ h=>h;exact⟨p,o,hm _ _ F,H,h3.le hm⟩
 ·rw[hv];exact j.pn E x (K h)
 ·rw[hv]at h;exact j.src q x p h
theorem uI.quiet{i:Nat}{x:Pn}(h:c.uI i x){o:Oper}(H:c.ops[i]?=some o):V9 c.P o.op=false:=by
 obtain⟨F,g,q,E,K,h3,J,_⟩:=h;have e:=E.1;grind[aa,TL]
theorem Jm.new(k:c.Ok)(j:Jm c β0 w0 done κ β w){i:Nat}{x:Pn}{obj:Obj}{sz:Nat}(hx:c.uI i x)(hi:done i=false)(ho:Oo (rs β (c.n i)) ⟨w.heap.size,0,sz⟩ obj x.b.o):
  Jm c β0 w0 (dn done i) κ (kf β (c.n i) ⟨w.heap.size,0,sz⟩) (w.alloc obj)/\Be.le β (kf β (c.n i) ⟨w.heap.size,0,sz⟩):=by
 obtain⟨e1,e2,e3,e4,hil⟩:=hx.n;have hnn:=j.bn i hil hi _ (ar _) (by rw[e1,Po.n_s];omega);have L:=QAm ⟨w.heap.size,0,sz⟩ hnn;have K:∀ {q:Po},q.n≠(c.n i).n->kf β (c.n i) ⟨w.heap.size,0,sz⟩ q=β q:=fun {q} h=>BR β _ (by grind);have hm:∀(m:Po),Be.le _ (rs _ m):=fun m=>Ei (ar _) fun q _ p h=>L q p h;have U:∀ {b:Nat},b<w.heap.size->(w.alloc obj).heap[b]?=w.heap[b]?:=fun {b} hb=>by
  show(w.heap.push obj)[b]?=_;grind
 have hlt:∀ {b:Nat} {o:Obj},w.heap[b]?=some o->b<w.heap.size:=fun h=>(Array.getElem?_eq_some_iff.1 h).1;have hget:(c.vw κ).h.get (c.n i)=none:=by
  cases hg:(c.vw κ).h.get _ with
  |none=>rfl
  |some b =>
   obtain⟨p,o,g1,_⟩:=j.ob _ b hg;have:=GL _ _ _ _ g1;simp_all
 have hp:∀ {E J},PN c (dn done i) κ E J->(E=i/\J=x)\/(E≠i/\PN c done κ E J):=fun {E J} h=>by
  by_cases e:E=i
  ·subst e;exact .inl ⟨rfl,h.1.uniq hx⟩
  ·exact .inr ⟨e,h.1,by have:=h.2.1;grind[Ao],h.2.2⟩
 have hin:∀ {q b},InH c _ κ q b->(q=c.n i/\b=x.b)\/(q≠c.n i/\InH c done κ q b):=fun {q b} h=>by
  rcases h with h | ⟨E,J,X,F,h3⟩
  ·refine .inr ⟨?_,.inl h⟩
   grind
  ·rcases hp X with ⟨rfl,rfl⟩ | ⟨e,H⟩
   ·simp_all
   ·refine .inr ⟨?_,.inr ⟨E,J,H,F,h3⟩⟩;intro e5;exact e (k.QDB H.1 hx (by simp_all))
 refine⟨⟨j.kl,fun l o hlo hll=>?_,fun q hq=>?_,fun E X F q h3 h4=>?_,fun q hq=>?_,fun q b h=>?_,fun E J h=>?_,fun q q' b b' p p' h h' g g' e=>?_,⟨j.qt.os,j.qt.tape,j.qt.out,j.qt.drawn⟩,aM j.sz (by simp),fun b hb hh=>?_,fun q y p h g Y=>?_,j.dC⟩,L⟩
 ·rw[<-j.ku l o hlo hll,Ao];rintro rfl;rw[hx.quiet hlo]at hll;grind
 ·have:=k.uP (aY i) (by omega);rw[K (by omega)];exact j.bl q hq
 ·have hii:E≠i:=by rintro rfl;grind[OU]
  have:q.n≠(c.n i).n:=by
   rcases aV E i with g | g
   ·have:=k.uP (i:=E+1) (j:=i) (by omega) (by omega);omega
   ·have:=k.uP (i:=i+1) (j:=E) (by omega) (by omega)
    grind[Po.n_s]
  rw[K this];rw[Ao hii]at F;exact j.bn E X F q h3 h4
 ·have:=k.uP (i:=i+1) (by omega) (ar _);rw[e1,Po.n_s]at this;rw[K (by omega)];exact j.bt q hq
 ·obtain⟨p,o,g1,g2,g3⟩:=j.ob q b h;exact⟨p,o,hm _ _ _ g1,by grind,g3.le (hm _)⟩
 ·rcases hp h with ⟨rfl,rfl⟩ | ⟨_,h⟩
  ·rw[e3];refine⟨hget,_,obj,by grind[vI,Po.n_s,VP],?_,ho.le (Ei (by grind[Po.n_s]) fun q _ p h=>L q p h),j.sz⟩;show(w.heap.push obj)[w.heap.size]?=_;simp
  ·obtain⟨g0,p,o,g1,g2,g3,g4⟩:=j.pn E J h;exact⟨g0,p,o,hm _ _ _ g1,by grind,g3.le (hm _),g4⟩
 ·have old:∀ {q b p},q≠c.n i->InH c done κ q b->kf β (c.n i) ⟨w.heap.size,0,sz⟩ q=some p->β q=some p/\p.ZH<w.heap.size:=fun {q b p} X F h3=>by
   rw[BR β _ X]at h3;obtain⟨p',o,k1,k2,_⟩:=j.all F;simp_all
  rcases hin h with ⟨rfl,_⟩ | ⟨X,F⟩<;>rcases hin h' with ⟨rfl,_⟩ | ⟨H,h2'⟩
  ·rfl
  ·grind[VP]
  ·grind[VP]
  ·exact j.inj q q' b b' p p' F h2' (old X F g).1 (old H h2' g').1 e
 ·rw[U (ay hb j.sz)];exact j.fr b hb hh
 ·have:q≠c.n i:=by grind
  rw[BR β _ this]at g;exact j.src q y p h g Y
end
end Tc
end Go.Ev
namespace Go.Ev
open Go.RowKit
namespace Tc
variable{c:Tc}
section
variable{N:Nat}{ds:List Deferred}{β0 β β':Be}{w0 w w':World}{done:Nat->Bool}{κ:Nat}{a:Act}
noncomputable def qu (β β':Be) (n a:Po):Be:=fun q=>if q.n<n.n then β q else if q.n<a.n then β' q else β q
theorem Jm.V9(k:c.Ok)(j:Jm c β0 w0 done κ β w){i:Nat}{r:R}(hl:c.Ld i r)(hi:done i=false)(hκ:κ<=i)(hn:∀l r,κ<=l->l<i->¬c.Ld l r)(hd:∀t,bit (c.D i) t=true->done t=true)
  (M:Mv c.lv (rs β (c.n i)) (act (c.D i) (c.vw i)) (c.n i) w β' r.h r.n w') :
  ∃βn,Be.le β βn/\rs βn (c.n (i+1))=β'/\Jm c β0 w0 (dn done i) (i+1) βn w':=by
 obtain⟨o,ho,hlo⟩:=hl.V9;have hil:=(List.getElem?_eq_some_iff.1 ho).1;obtain⟨e1,e2⟩:c.n (i+1)=r.n/\(c.vw (i+1)).h=r.h:=by
  obtain⟨_,_,_,_,_,_,e⟩:=hl;unfold Tc.n Tc.vw;simp_all
 have hle0:(c.n i).n<=r.n.n:=M.le;have F:=fun q b h=>k.part (q:=q) (b:=b) j (i:=i) (j':=i) (by omega) (k.still hκ (by omega) hn) (fun l r _ h=>by omega) hd h;have cv:∀ {q b},(act (c.D i) (c.vw i)).get q=some b->InH c done κ q b:=fun {q b} h=>by
  rcases F q b h with h | ⟨x,_,U,_,h3,h4⟩
  ·exact .inl h
  ·exact .inr ⟨_,x,U,h3,h4⟩
 refine⟨qu β β' (c.n i) r.n,?_⟩;have Y:Be.le β (qu β β' (c.n i) r.n):=fun q p h=>by
  unfold qu;split
  ·exact h
  ·rename_i h1;split
   ·rename_i U;rw[j.bn i hil hi q (by omega) (by simp_all)]at h;cases h
   omega
 have hrs:rs (qu β β' (c.n i) r.n) r.n=β':=by
  funext q;unfold rs;split
  ·rename_i h1;unfold qu;split
   ·rename_i U;rw[M.old q U,vI U]
   ·rfl
  ·rename_i h1;exact(M.ok.top q (by omega)).symm
 have hm:∀(m:Po),Be.le (rs β m) (rs (qu β β' (c.n i) r.n) m):=fun m=>Ei (ar _) fun q _ p h=>Y q p h;have hnl:∀x,¬c.uI i x:=fun x h=>by rw[h.quiet ho]at hlo;grind
 have hp:∀ {E J},PN c (dn done i) (i+1) E J->E≠i/\PN c done κ E J/\bit (c.D i) E=false:=fun {E J} h=>by
  have e:E≠i:=by rintro rfl;exact hnl _ h.1
  exact⟨e,⟨h.1,by have:=h.2.1;grind[Ao],fun l r h1 U=>h.2.2 l r h1 (by omega)⟩,h.2.2 i r hl (by omega)⟩
 have apart:∀ {E J},PN c (dn done i) (i+1) E J->∀ {q b p X},(act (c.D i) (c.vw i)).get q=some b->rs β (c.n i) q=some p->β J.n=some X->p.ZH≠X.ZH:=fun {E J} h {q b p X} hq H L e=>by
  obtain⟨h1,U,h3⟩:=hp h;have:=j.inj q J.n b J.b p X (cv hq) (.inr ⟨E,J,U,rfl,rfl⟩) (GL _ _ _ _ H) L e;subst this;rcases F _ b hq with h4 | ⟨y,y1,y2,y3,y4,y5⟩
  ·rw[(j.pn E J U).1]at h4;cases h4
  ·have:=k.QDB y2.1 U.1 y4;simp_all
 have own:∀ {q b p},r.h.get q=some b->qu β β' (c.n i) r.n q=some p->β' q=some p:=fun {q b p} h1 U=>by
  obtain⟨p',o',g1,_⟩:=M.ok.ob q b h1;have:=GL _ _ _ _ (show rs (qu β β' (c.n i) r.n) r.n q=some p' by simp_all);simp_all
 have apart2:∀ {E J},PN c (dn done i) (i+1) E J->∀ {q b p X},r.h.get q=some b->β' q=some p->β J.n=some X->p.ZH≠X.ZH:=fun {E J} h {q b p X} hq H L e=>by
  obtain⟨p',o',g1,g2,_⟩:=j.all (.inr ⟨E,J,(hp h).2.1,rfl,rfl⟩:InH c done κ J.n J.b);rw[L]at g1;cases g1;have hlt:=(Array.getElem?_eq_some_iff.1 g2).1;obtain⟨q0,c0,p1,k1,k2,k3,_⟩:=M.src q b p hq H (by omega)
  grind
 refine⟨Y,by simp_all,hil,fun l ol hol hll=>?_,fun q hq=>?_,fun E h1 U q h3 h4=>?_,fun q hq=>?_,fun q b h=>?_,fun E J h=>?_,fun q q' b b' p p' h h' g g' e=>?_,⟨M.os.trans j.qt.os,M.tape.trans j.qt.tape,M.out.trans j.qt.out,trivial⟩,aM j.sz M.size,fun b hb hh=>?_,fun q y p h g hlt'=>?_,fun K hK hh=>?_⟩
 ·by_cases e:l=i
  ·grind[OU]
  ·rw[Ao e];rcases aV l i with g | g
   ·have:=hd l (k.rg.ld hol ho g hll hlo)
    grind
   ·have:=j.ku l ol hol hll
    grind
 ·have:=k.uP (aY i) (by omega);unfold qu;rw[if_pos (by omega)];exact j.bl q hq
 ·have hii:E≠i:=by rintro rfl;grind[OU]
  rw[Ao hii]at U;have hb:=j.bn E h1 U q h3 h4;unfold qu;rcases aV E i with g | g
  ·have:=k.uP (i:=E+1) (j:=i) (by omega) (by omega)
   grind
  ·have:=k.uP (i:=i+1) (j:=E) (by omega) (by omega)
   grind
 ·have:=k.uP (i:=i+1) (j:=c.ops.length) (by omega) (ar _);rw[e1]at this;unfold qu;rw[if_neg (by omega),if_neg (by omega)];exact j.bt q hq
 ·rw[e2]at h;rw[e1,hrs];exact M.ok.ob q b h
 ·obtain⟨h1,U,h3⟩:=hp h;obtain⟨g0,p,o',g1,g2,g3,g4⟩:=j.pn E J U;have L:=GL _ _ _ _ g1;refine⟨?_,p,o',hm _ _ _ g1,?_,g3.le (hm _),g4⟩
  ·rw[e2];cases hg:r.h.get J.n with
   |none=>rfl
   |some b =>
    obtain⟨p1,o1,k1,_⟩:=M.ok.ob _ b hg;have:p1=p:=by
     have:=GL _ _ _ _ (show rs (qu β β' (c.n i) r.n) r.n J.n=some p1 by simp_all);rw[Y _ _ L]at this;simp_all
    grind
  ·rw[M.fr p.ZH (Array.getElem?_eq_some_iff.1 g2).1 fun q b p1 hq _ H=>apart h hq H L];exact g2
 ·rcases h with h | ⟨i1,x1,h1,rfl,rfl⟩<;>rcases h' with h' | ⟨i2,x2,U,rfl,rfl⟩
  ·rw[e2]at h h';exact M.ok.inj q q' b b' p p' h h' (own h g) (own h' g') e
  ·rw[e2]at h;obtain⟨_,X,_,k1,_⟩:=j.pn i2 x2 (hp U).2.1;have L:=GL _ _ _ _ k1;rw[Y _ _ L]at g';grind
  ·rw[e2]at h';obtain⟨_,X,_,k1,_⟩:=j.pn i1 x1 (hp h1).2.1;have L:=GL _ _ _ _ k1;rw[Y _ _ L]at g;grind
  ·obtain⟨_,p1,_,k1,_⟩:=j.pn i1 x1 (hp h1).2.1;obtain⟨_,p2,_,k2,_⟩:=j.pn i2 x2 (hp U).2.1;have H:=GL _ _ _ _ k1;have hp2:=GL _ _ _ _ k2;rw[Y _ _ H]at g;cases g;rw[Y _ _ hp2]at g';cases g';exact j.inj _ _ _ _ _ _ (.inr ⟨i1,x1,(hp h1).2.1,rfl,rfl⟩) (.inr ⟨i2,x2,(hp U).2.1,rfl,rfl⟩) H hp2 e
 ·rw[M.fr b (ay hb j.sz) fun q x p hq hlv H e=>?_]
  ·exact j.fr b hb hh
  ·rcases F q x hq with h4 | ⟨y,y1,y2,y3,y4,y5⟩
   ·obtain⟨q0,c0,X,k1,k2,k3,k4⟩:=j.src q x p h4 (GL _ _ _ _ H) (by omega);exact hh q0 c0 X k1 (k4 hlv) k2 (by omega)
   ·obtain⟨_,X,_,k1,_,_,k4⟩:=j.pn _ y y2;rw[y4]at k1;have h8:=GL _ _ _ _ k1;rw[GL _ _ _ _ H]at h8;cases h8;omega
 ·rw[e2]at h;obtain⟨q1,c1,p1,k1,k2,k3,k4⟩:=M.src q y p h (own h g) (ay hlt' j.sz);rcases F q1 c1 k1 with h4 | ⟨x,x1,x2,x3,x4,x5⟩
  ·obtain⟨q0,c0,X,m1,m2,m3,m4⟩:=j.src q1 c1 p1 h4 (GL _ _ _ _ k2) (by omega);exact⟨q0,c0,X,m1,m2,by omega,fun h=>m4 (k4 h)⟩
  ·obtain⟨_,X,_,m1,_,_,m4⟩:=j.pn _ x x2;rw[x4]at m1;have:=GL _ _ _ _ m1;rw[GL _ _ _ _ k2]at this;cases this;omega
 ·rw[e2];refine M.dC K hK fun q x hq=>?_;rcases F q x hq with h4 | ⟨y,y1,y2,y3,y4,y5⟩
  ·exact j.dC K hK hh q x h4
  ·rw[<-y5,y2.1.n.2.2.2.1];exact hK
end
end Tc
end Go.Ev
namespace Go.Ev
open Go.RowKit
theorem QAl{P:Program}{F:Fence}{a:Act}{w w':World}{K:Act->World->Prop}{Q:Exit->Act->World->Prop}(g:OpF P F){o:Oper}{v:Value}(c:∀cl,o.op≠.defer cl)
  (b:∀d ty pos aft gd,(execOp a.eval ⟨d,o.op,ty,pos,aft,gd⟩).run P w = .ok (.value v) w') (e:K (a.put o.dst v) w'):o.wpIn F 0 P a w K Q:=by
 refine⟨fun f _=>g.op.fn f,?_⟩;rw[fi F _ o c];have:(execOp _ o).run P w = .ok _ w':=b o.dst _ o.pos _ _;rw[this];exact e
namespace Tc
variable{c:Tc}
section
variable{N:Nat}{ds:List Deferred}{β0 β β':Be}{w0 w w':World}{done:Nat->Bool}{κ:Nat}{a:Act}
theorem Off.not{i:Nat}(h:c.Off i){o:Oper}(E:c.W i o):False:=by
 obtain⟨J,g,H,L,h3,_⟩:=h;have e:=E.1;rw[H]at e;cases aa e;rcases E.2 with F | ⟨U,F,K⟩
 all_goals grind[aa,Tc.cx]
theorem Ok.ahead(k:c.Ok)(j:Jm c β0 w0 done κ β w){i:Nat}{o:Oper}(J:c.ops[i]?=some o)(K:V9 c.P o.op=true)(L:done i=false)(hd:∀t,bit (c.D i) t=true->done t=true):κ<=i/\∀l r,κ<=l->l<i->¬c.Ld l r:=by
 refine⟨?_,fun l r Y X H=>?_⟩
 ·rcases aV i κ with g | g
  ·rw[(j.ku i o J K).2 g]at L;cases L
  omega
 ·obtain⟨U,E,F⟩:=H.V9;have:=(j.ku l U E F).1 (hd l (k.rg.ld E J X F K));omega
theorem first(c:Tc)(κ:Nat):∀i,κ<=i->(∀l o,κ<=l->l<i->c.ops[l]?=some o->V9 c.P o.op=false)\/∃l o,κ<=l/\l<i/\c.ops[l]?=some o/\V9 c.P o.op=true/\∀l' o',κ<=l'->l'<l->c.ops[l']?=some o'->V9 c.P o'.op=false
 |0,h=>.inl fun l o b a=>by omega
 |i+1,h=>by
  by_cases e:κ=i+1
  ·grind
  ·rcases first c κ i (by omega)with g | ⟨l,o,g1,f,d⟩
   all_goals grind
theorem Ok.read(k:c.Ok)(s:Js c N ds done β a)(j:Jm c β0 w0 done κ β w){i:Nat}{g:Tr B->Option A}{x:A}(h:c.Rd i g x)(hil:i<c.ops.length)(X:done i=false)(hd:∀t,bit (c.D i) t=true->done t=true):
  ∃h',Ob β h' w/\g h'=some x:=by
 have quiet:∀ {l r},c.Ld l r->∀ {P:Prop},(∀o,c.ops[l]?=some o->V9 c.P o.op=false)->P:=fun {l r} E {P} hq=>by
  obtain⟨o,H,F⟩:=E.V9;simp_all
 rcases aV i κ with gt | gle
 ·obtain⟨j',H,F,h3,K⟩:=k.cA h gt j.kl fun l r E H F=>by
   obtain⟨o,J,hl⟩:=E.V9;cases hb:bit _ i with
   |false=>rfl
   |true =>
    rw[s.cl l (List.getElem?_eq_some_iff.1 J).1 ((j.ku l o J hl).2 F) i hb]at X;cases X
  refine⟨_,k.QKD j (aM H j.kl) F (fun l r E hlt=>?_) hd,K⟩
  grind
 ·rcases first c κ i gle with Y | ⟨l,o,H,F,h3,K,L⟩
  ·obtain⟨_,_,_,_,_,_,L,_⟩:=h;exact⟨_,k.QKD j (by omega) (k.still gle (by omega) fun l r H F E=>quiet E fun o J=>Y l o H F J) (fun l r _ _=>by omega) hd,L⟩
  ·have hb:bit (c.D i) l=false:=by
    cases hb:bit _ l with
    |false=>rfl
    |true=>have:=(j.ku l o h3 K).1 (hd l hb);omega
   refine⟨_,k.QKD j (by omega) (k.still H (by omega) fun U r H F E=>quiet E fun o J=>L U o H F J) (fun U r _ _=>by omega) hd,k.QA8 h F h3 K hb⟩
theorem Ok.QNK(k:c.Ok)(s:Js c N ds done β a)(j:Jm c β0 w0 done κ β w)(g:Gl β0 (c.n 0))(hL:Lb c.lv (c.vw 0).h)(hih:IhS c.P c.ih){F:Fence}(hF:OpF c.P F){Q:Exit->Act->World->Prop}{K:Act->World->Prop}(hN:(c.ops.all fun o=>dOk N o.dst)=true)
  {i:Nat} (hil:i<c.ops.length) (hi:done i=false) (hd:∀t,bit (c.D i) t=true->done t=true)
  (hK:∀a' w' κ' β',Js c N ds (dn done i) β' a'->Jm c β0 w0 (dn done i) κ' β' w'->K a' w'):wpOpIn F 0 c.P c.ops.toArray Q i K a w:=by
 obtain⟨o,J⟩:∃o,c.ops[i]?=some o:=⟨c.ops[i],by simp⟩;have L:dOk N o.dst=true:=by
  grind
 unfold wpOpIn;have ho':c.ops.toArray[i]?=some o:=by simp_all
 rw[ho'];simp only;have kept:(∀x,¬c.uI i x)->V9 c.P o.op=false->Jm c β0 w0 (dn done i) κ β w:=fun hn hq =>
  Jm.move k j (ar _) j.kl rfl (fun _ _ _ h=>h) (fun l ol hol hll=>by
   rw[Ao]
   ·exact j.ku l ol hol hll
   grind) hn
 have nonew:∀ {x:Pn},c.uI i x->∃g q,c.W i o/\kj c.P (c.cx i) o.op=none/\gv c.P (c.cx i) o.op=none/\neD c.P (c.cx i) o.op=some g/\g.f (c.st i) c.m=some q:=fun {x} hx=>by
  obtain⟨o',g,q,U,X,h3,h4,h5,_⟩:=hx;have e:=U.1;grind
 have E:∀ {b:A} {l:List A},(c.zf (i+1)).st=b::l->c.val i=b:=fun e=>by grind[Tc.val]
 have wnt:∀ {o'},c.W i o'->o'=o/\aK o (yielded c.ops.toArray a.tmps)=true:=fun {o'} H=>by
  have e:=H.1;rw[J]at e;cases aa e;exact⟨rfl,k.wanted s hi hd H⟩
 have hρ:=k.oper s j g J hi hd;rcases k.step hil with hoff | ⟨o1,gg,x,U,X,h3,e⟩ | ⟨gg,x,hrd⟩ | ⟨x,hnew⟩ | ⟨r,hld⟩
 ·have hoff':=hoff;obtain⟨o1,gg,U,X,h3,e⟩:=hoff;rw[J]at U;cases aa U;rw[if_neg (by rw[k.guard s J hi hd X h3];decide)];refine⟨fun f _=>hF.op.fn f,?_⟩;have hnn:∀x,¬c.uI i x:=fun x hx=>by
   obtain⟨_,_,H,_⟩:=nonew hx;exact hoff'.not H
  have hnl:∀r,¬c.Ld i r:=fun r hx=>by
   obtain⟨_,H,_⟩:=hx;exact hoff'.not H
  have hv:V (rs β (c.n (i+1))) (c.val i)=some undef:=by rw[E (by rw[e])];rfl
  cases hlo:V9 c.P o.op with
  |false=>exact hK _ _ κ β (s.put k J hd L (Be.le_refl β) hv) (kept hnn hlo)
  |true =>
   obtain⟨g1,g2⟩:=k.ahead j J hlo hi hd;refine hK _ _ (i+1) β (s.put k J hd L (Be.le_refl β) hv) (Jm.move k j (by omega) (by omega) (k.still (by omega) (by omega) fun l r U X hx=>?_) (fun _ _ _ h=>by omega) (fun l ol hol hll=>?_) hnn)
   ·grind
   ·by_cases e:l=i
    ·grind[OU]
    ·rw[Ao e];rcases aV l i with g | g
     ·have:=hd l (k.rg.ld hol J g hll hlo)
      grind
     ·have:=j.ku l ol hol hll
      grind
 ·obtain⟨rfl,H⟩:=wnt U;rw[if_pos H];obtain⟨v,g1,g2⟩:=QJF X h3 hρ;refine QAl hF (fun cl e=>by rw[e]at X;cases X) (fun d ty Y aft gd=>g2 w d ty Y aft gd) (hK _ _ κ β (s.put k J hd L (Be.le_refl β) ?_) (kept (fun x hx=>?_) (by rw[TL (c.cx i),X];rfl)))
  ·rw[E (by rw[e])];have:c.n (i+1)=c.n i:=by unfold Tc.n;rw[e];rfl
   simp_all
  simp_all
 ·obtain⟨h',hob,hx⟩:=k.read s j hrd hil hi hd;obtain⟨o1,g',U,X,h3,h4,h5,h6,h7,e⟩:=hrd;obtain⟨rfl,H⟩:=wnt U;rw[if_pos H];subst h4;obtain⟨v,g1,g2⟩:=QJN hob h3 hx fun z hz b e=>qP (GL _ _) _ _ (hρ z hz b e);refine QAl hF (fun cl e=>by rw[e]at h3;cases h3) (fun d ty Y aft gd=>g2 d ty Y aft gd) (hK _ _ κ β (s.put k J hd L (Be.le_refl β) ?_) (kept (fun x hx=>?_) (by grind[TL])))
  ·rw[E (by rw[e])];have:c.n (i+1)=c.n i:=by unfold Tc.n;rw[e];rfl
   grind[QBW]
  simp_all
 ·have hnew':=hnew;obtain⟨o1,g',q,U,X,h3,h4,h5,h6,e⟩:=hnew;obtain⟨rfl,H⟩:=wnt U;rw[if_pos H];obtain⟨obj,sz,v,g1,g2,g3⟩:=QJL (h:=.lf) (w:=w) h4 h5 hρ;obtain⟨j1,j2⟩:=Jm.new k j hnew' hi (obj:=obj) (sz:=sz) (by simp_all);refine QAl hF (fun cl e=>by rw[e]at h4;cases h4) (fun d ty Y aft gd=>g1 d ty Y aft gd) (hK _ _ κ _ (s.put k J hd L j2 ?_) j1);rw[E (by rw[e])];refine g3 _ ?_;obtain⟨e1,_⟩:=hnew'.n
  grind[vI,Po.n_s,VP]
 ·have hld':=hld;obtain⟨o1,U,X,h3,h4,h5,e⟩:=hld;obtain⟨rfl,H⟩:=wnt U;rw[if_pos H];obtain⟨g1,g2⟩:=k.ahead j J X hi hd;refine QFz hF (k.QNP j hil g1 g2 hd) (k.gl j g (by omega)) (fun q x hq=>?_) hih h3 hρ fun β' v w' hv M=>?_
  ·rcases k.part j (i:=i) (j':=i) (by omega) (k.still g1 (by omega) g2) (fun l r _ h=>by omega) hd hq with h | ⟨y,_,y2,_,_,y5⟩
   ·exact j.dC c.lv (ar _) hL q x h
   ·rw[<-y5,y2.1.n.2.2.2.1];omega
  obtain⟨βn,m1,m2,m3⟩:=Jm.V9 k j hld' hi g1 g2 hd M;refine hK _ _ (i+1) βn (s.put k J hd L m1 ?_) m3;simp_all
end
end Tc
end Go.Ev
namespace Go.Ev
open Go.RowKit
section
variable{P:Program}{X:Nat->Bool}{ih:Ih}{lv:Nat}{F:Fence}{Q:Exit->Act->World->Prop}
theorem QGL{l:Array Bool}{i:Nat}(a:i<l.size)(j:Nat):(l.setIfInBounds i true).getD j true=Tc.dn (fun j=>l.getD j true) i j:=by
 unfold Tc.dn;by_cases e:j=i
 ·simp_all
 ·have b:i≠j:=by omega
  simp_all
def und(l:Array Bool):Nat:=l.toList.count false
theorem QCf{l:Array Bool}{i:Nat}(b:i<l.size)(h:l.getD i true=false):und (l.setIfInBounds i true)+1=und l:=by
 unfold und;have a:l.toList[i]=false:=by simp_all
 grind
theorem QHg{l:Array Bool}{i:Nat}(h:l.getD i true=false):0<und l:=by
 grind[aV,QCf]
namespace Tc
variable{c:Tc}{N:Nat}{ds:List Deferred}{β0:Be}{w0:World}
theorem Ok.QDZ(k:c.Ok){l:Array Bool}(J:l.size=c.ops.length)(H:bU .any c.ops.toArray l=[]):∀i,i<c.ops.length->l.getD i true=true:=by
 intro i
 induction i using eG with
 |_ i ih =>
  intro K;cases h:l.getD i true with
  |true=>rfl
  |false =>
   obtain⟨o,E⟩:∃o,c.ops[i]?=some o:=⟨c.ops[i],by simp⟩;have:i∈bU .any c.ops.toArray l:=mem_ready.2 ⟨h,o,by simp_all,fun e L hb=>by
    have F:=k.rg.on E e (by simp_all) hb
    grind⟩
   simp_all
theorem Ok.any(k:c.Ok)(g:Gl β0 (c.n 0))(hL:Lb c.lv (c.vw 0).h)(E:IhS c.P c.ih)(hF:OpF c.P F)(Y:(c.ops.all fun o=>dOk N o.dst)=true)
  (U:∀κ β a w,(∀done,(∀i,i<c.ops.length->done i=true)->Js c N ds done β a->Jm c β0 w0 done κ β w->Q .normal a w)):∀(f:Nat) (l:Array Bool) (a:Act) (w:World) (κ:Nat) (β:Be),l.size=c.ops.length->Js c N ds (fun i=>l.getD i true) β a->Jm c β0 w0 (fun i=>l.getD i true) κ β w->und l<=f->wpAnyIn F 0 c.P .any c.ops.toArray Q f l a w
 |0,l,a,w,κ,β,K,s,j,hu=>by
  have H:bU .any c.ops.toArray l=[]:=by
   cases h:bU .any _ l with
   |nil=>rfl
   |cons i r =>
    have:i∈bU .any c.ops.toArray l:=by simp_all
    have:=QHg (mem_ready.1 this).1;omega
  exact⟨H,U κ β a w _ (k.QDZ K H) s j⟩
 |f+1,l,a,w,κ,β,K,s,j,hu=>by
  refine⟨fun H=>U κ β a w _ (k.QDZ K H) s j,fun i hi=>?_⟩;obtain⟨h1,o,h2,h3⟩:=mem_ready.1 hi;have J:c.ops[i]?=some o:=by simp_all
  have L:=(List.getElem?_eq_some_iff.1 J).1;refine k.QNK s j g hL E hF Y L h1 (fun t ht=>?_) fun a' w' κ' β' s' j'=>?_
  ·obtain⟨e,e1,e2,e3⟩:=k.rg.ex J ht;have hlt:=k.rg.on J e e1 e2;have h4:l.getD e.on true=true:=by
    grind
   rcases e3 with e3 | e3
   ·simp_all
   ·exact s.cl e.on (by omega) h4 t e3
  ·have X:(fun j=>(l.setIfInBounds i true).getD j true)=dn (fun j=>l.getD j true) i:=by
    grind[QGL]
   have hu':=QCf (by omega) h1;exact k.any g hL E hF Y U f _ a' w' κ' β' (by simp_all) (by simp_all) (by simp_all) (by omega)
end Tc
theorem QIs{a:List Bool}{D:List Nat}{i l:Nat}(h:i<l)(b:a[l]?=some true)(h3:bit (D.getD l 0) i=false):QEV a D i=true:=by
 unfold QEV;rw[List.any_eq_true];refine⟨l,List.mem_range.2 (List.getElem?_eq_some_iff.1 b).1,?_⟩;have:a.getD l false=true:=by simp_all
 rw[this,h3,aB h];rfl
theorem QId(hF:OpF P F)(hih:IhS P ih){E:Array Oper}{N:Nat}{m:Tr A}{h:Tr B}{n:Po}{β:Be}{a:Act}{w:World}{r:R}{id:Nat}(hr:(QDQ P X E.toList).f ih lv m h n=some r)(hN:(E.toList.all fun o=>dOk N o.dst)=true)
  (hs:a.tmps.size=N) (hk:Ok β h n w) (hg:Gl β n) (hL:Lb lv h) (hsl:Sl X β m a.tmps)
  (hQ:∀β' a' w',r.e = .nm->Sl X β' r.m a'.tmps->a'.tmps.size=N->a'.defers=a.defers->Mv lv β h n w β' r.h r.n w'->Q .normal a' w'):(Code.region id E true).wpIn F 0 P Q a w:=by
 unfold QDQ at hr;simp only[ZX]at hr;split at hr
 ·rename_i hc;rw[aq,aq]at hc;obtain⟨hc1,hc2,hc3⟩:=hc;have hX:X 1000000=false:=by simp_all
  have hr1:bd ((QDP P X E.toList (uR E.toList []) (E.toList.map fun o=>V9 P o.op) E.toList 0 []).f ih lv m ⟨[],⟨h,[]⟩,n,[],[]⟩) (fun z=>some (⟨.nm,u0,(flD X (E.toList.map yp).reverse).f z.st m,QEW z.v,z.n⟩:R))=some r:=by
   omega
  obtain⟨zL,h1,h2⟩:=Qc hr1;cases aa h2;obtain⟨zf,z0,z1,z2⟩:=QAF h1;rw[bh]at z1;let c:Tc:=⟨P,ih,lv,m,X,E.toList,fun k=>(uR E.toList []).getD k 0,QEV (E.toList.map fun o=>V9 P o.op) (uR E.toList []),zf⟩;have H:c.Ok:=⟨QKC hc3,fun i o J=>by
   have:=z2 i o J;simp only[bh,List.append_nil]at this;exact this,by grind,by grind,by grind,by grind,
   fun i l o hil J hl hb=>QIs hil (by grind) hb⟩
  have hn0:c.n 0=n:=by show(zf 0).n=n;rw[z0]
  have hv0:c.vw 0=⟨h,[]⟩:=by show(zf 0).v=_;rw[z0]
  have hrs:rs β n=β:=by
   funext q;unfold rs;split
   ·rfl
   ·rename_i h1;exact(hk.top q (by omega)).symm
  have hlen:c.ops.length=E.size:=by rfl
  refine wpIn_region_any hc1 ?_;have f0:∀i,i<c.ops.length->(aE E.size false).getD i true=false:=fun i hi=>by
   simp_all
  have f1:∀i o,c.ops[i]?=some o->(aE E.size false).getD i true=true->False:=fun i o J h=>by
   grind
  have hop:E=c.ops.toArray:=by rfl
  have hfin:∀κ β' a' w',(∀done,(∀i,i<c.ops.length->done i=true)->Tc.Js c N a.defers done β' a'->Tc.Jm c β w done κ β' w'->Q .normal a' w'):=fun κ β' a' w' done hd s j=>by
   have hst:(c.vw c.ops.length).h=(c.vw κ).h:=H.still j.kl (ar _) fun l r h1 h2 hl=>by
    obtain⟨o,J,hlo⟩:=hl.V9;have:=(j.ku l o J hlo).1 (hd l h2);omega
   have hzL:c.zf c.ops.length=zL:=by
    omega
   have L:∀ {q b},(QEW zL.v).get q=some b->(c.vw κ).h.get q=some b\/∃x,Tc.PN c done κ x.j x/\x.n=q/\x.b=b:=fun {q b} U=>by
    rcases QG2 U with ⟨x,g1,g2,g3⟩ | g1
    ·obtain⟨k1,k2,k3⟩:=H.QHy (ar _) (x:=x) (by grind[Tc.vw]);exact .inr ⟨x,⟨k2,hd _ k1,fun l r hl hlt=>k3 l r hl (ay hlt j.kl)⟩,g2,g3⟩
    grind[Tc.vw]
   have hcv:∀ {q b},(QEW zL.v).get q=some b->Tc.InH c done κ q b:=fun {q b} U=>by
    rcases L U with g | ⟨x,g1,g2,g3⟩
    ·exact .inl g
    ·exact .inr ⟨_,x,g1,g2,g3⟩
   have hnL:c.n c.ops.length=zL.n:=by grind[Tc.n]
   refine hQ β' a' w' rfl ?_ s.size s.defs ⟨by rw[<-hn0,<-hnL];exact H.uP (aY _) (ar _),fun q U=>j.bl q (by grind),⟨fun q b U=>j.all (hcv U),fun q q' b b' p p' g g' k1 k2 e=>j.inj q q' b b' p p' (hcv g) (hcv g') k1 k2 e,fun q U=>j.bt q (by grind)⟩,
    j.qt.os,j.qt.tape,j.qt.out,j.qt.drawn,j.sz,fun b hb hh=>j.fr b hb fun q x p h1 h2 h3=>hh q x p (by grind) h2 h3,fun q x p U hp hlt=>?_,fun K hK hh q x U=>?_⟩
   ·have hl2:(c.st c.ops.length).length=(c.loc c.ops.length).length:=H.len (ar _);have hloc:c.loc c.ops.length=(E.toList.map yp).reverse:=by
     grind[Tc.loc,List.take_length]
    have hstL:c.st c.ops.length=zL.st:=by grind[Tc.st]
    intro t b hX' hb;rw[<-hloc,<-hstL]at hb;have hb:ev (c.cx c.ops.length) (.tmp t) (c.st c.ops.length) c.m=some b:=by rw[<-hb];exact(QB1 hX' hl2).symm
    have ht:t≠1000000:=by grind
    by_cases hx:∃(i:Nat) (o:Oper),c.ops[i]?=some o/\o.dst=some t
    ·obtain⟨i,o,J,Y⟩:=hx;have hil:=(List.getElem?_eq_some_iff.1 J).1;rw[H.QDM J Y ht (ar _) hil]at hb;cases aa hb;obtain⟨v,g1,g2⟩:=s.sl i o t J (hd i hil) Y
     grind[qP,GL]
    ·rw[H.QDN ht (ar _) fun i o _ J Y=>hx ⟨i,o,J,Y⟩,ZX,if_pos hX']at hb;obtain⟨v,g1,g2⟩:=s.cr t b hX' hb fun i o J _ Y=>hx ⟨i,o,J,Y⟩
     grind[qP,GL]
   ·rcases L U with g | ⟨y,g1,g2,g3⟩
    ·obtain⟨q0,c0,p0,k1,k2,k3,k4⟩:=j.src q x p g hp hlt
     grind
    ·obtain⟨_,p0,_,k1,_,_,k4⟩:=j.pn _ y g1;have h8:=GL _ _ _ _ k1
     grind
   ·rcases L U with g | ⟨y,g1,g2,g3⟩
    ·exact j.dC K hK (by grind) q x g
    ·rw[<-g3,g1.1.n.2.2.2.1];exact hK
  have hinj:∀q q' b b' p p',Tc.InH c (fun i=>(aE E.size false).getD i true) 0 q b->Tc.InH c (fun i=>(aE E.size false).getD i true) 0 q' b'->β q=some p->β q'=some p'->p.ZH=p'.ZH->q=q':=by
   have old:∀ {q b},Tc.InH c (fun i=>(aE E.size false).getD i true) 0 q b->h.get q=some b:=fun {q b} g=>by
    rcases g with g | ⟨i,x,g,_⟩
    ·grind
    ·have h5:(aE E.size false).getD i true=true:=g.2.1;rw[f0 i g.1.n.2.2.2.2]at h5;cases h5
   exact fun q q' b b' p p' g g'=>hk.inj q q' b b' p p' (old g) (old g')
  have main:=Tc.Ok.any (F:=F) (Q:=Q) (ds:=a.defers) (w0:=w) (β0:=β) (N:=N) H (by grind) (by grind) hih hF hN hfin E.size (aE E.size false) a { w with drawn:=w.drawn+1 } 0 β (by grind)
   ⟨hs,rfl,fun i hi h=>(by grind),fun i o d J h=>(f1 i o J h).elim,fun t b hX hb _=>(by rw[hn0,hrs];exact hsl t b hX hb)⟩
   ⟨aY _,fun l o J hl=>⟨fun h=>(f1 l o J h).elim,fun h=>by omega⟩,fun q _=>rfl,fun i hi _ q U _=>hk.top q (by have:=H.uP (aY i) (by omega);rw[hn0]at this;omega),
    fun q U=>hk.top q (by have:=H.uP (aY c.ops.length) (ar _);rw[hn0]at this;omega),
    fun q b h=>(by rw[hn0,hrs];rw[hv0]at h;exact hk.ob q b h),
    fun i x hx=>(by have h5:(aE E.size false).getD i true=true:=hx.2.1;rw[f0 i hx.1.n.2.2.2.2]at h5;cases h5),
    hinj,⟨rfl,rfl,rfl,trivial⟩,ar _,fun _ _ _=>rfl,fun q x p h g _=>⟨q,x,p,h,g,rfl,fun h=>h⟩,fun _ _ h=>h⟩ (by
     have:und (aE E.size false)<=(aE E.size false).toList.length:=List.count_le_length;simpa using this)
  omega
 trivial
end
end Go.Ev
namespace Go.Ev
open Go.RowKit
def jE(a:Nat)(β:Be)(h:Tr B)(w:World):List Deferred->Prop
 |[]=>True
 |d::l=>(∃D,d={ target:=.collected D,args:=#[] }/\a<=D/\w.heap[D]?=some (.deferred (some []))/\(∀q x p,h.get q=some x->β q=some p->p.ZH≠D)/\∀d'∈l,d'≠d)/\jE a β h w l
theorem jE.mv{J lv:Nat}{β β':Be}{h H:Tr B}{n K:Po}{w w':World}(M:Mv lv β h n w β' H K w'):∀ {l:List _},jE J β h w l->jE J β' H w' l
 |[],_=>trivial
 |d::l,⟨⟨D,h1,Y,h3,X,U⟩,k⟩=>by
  have L:=(Array.getElem?_eq_some_iff.1 h3).1;refine⟨⟨D,h1,Y,?_,fun q x p E F e=>?_,U⟩,k.mv M⟩
  ·rw[M.fr D L fun q x p E _ F=>X q x p E F];exact h3
  ·obtain⟨q0,c0,p0,g1,g2,g3,_⟩:=M.src q x p E F (by omega)
   grind
structure Sta(X:Nat->Bool)(N b0 lv:Nat)(β:Be)(m:Tr A)(h:Tr B)(n:Po)(a:Act)(w:World):Prop where
 sl:Sl X β m a.tmps
 sz:a.tmps.size=N
 ok:Ok β h n w
 gl:Gl β n
 lb:Lb lv h
 df:jE b0 β h w a.defers
 b0:b0<=w.heap.size
def exO:Ex->Exit
 |.nm=>.normal
 |.ex a=>.exit a
 |.rt=>.ret
section
variable{P:Program}{X:Nat->Bool}{N b0:Nat}{lv:Nat}{ih:Ih}{F:Fence}{rf:Bool}
def CoS(P:Program)(ih:Ih)(b:Bool)(X:Nat->Bool)(N:Nat)(F:Fence)(c:Code):Prop:=∀ {Q:Exit->Act->World->Prop} {lv b0:Nat} {m:Tr A} {h:Tr B} {n:Po} {β:Be} {a:Act} {w:World} {r:R},(yz P b X c).f ih lv m h n=some r->Sta X N b0 lv β m h n a w ->
 (∀β' a' w',Sta X N b0 lv β' r.m r.h r.n a' w'->Mv lv β h n w β' r.h r.n w'->Q (exO r.e) a' w')->c.wpIn F 0 P Q a w
theorem Sta.mv{β β':Be}{m H:Tr A}{h J:Tr B}{n F:Po}{a E:Act}{w w':World}(s:Sta X N b0 lv β m h n a w)(M:Mv lv β h n w β' J F w')(L:Sl X β' H E.tmps)(K:E.tmps.size=N)(h3:E.defers=a.defers):Sta X N b0 lv β' H J F E w' :=
 ⟨L,K,M.ok,s.gl.mv M,M.dC lv (ar _) s.lb,by rw[h3];exact s.df.mv M,aM s.b0 M.size⟩
theorem QER(p:OpF P F)(c:IhS P ih){j:Nat}{b:Array Oper}{i:Bool}(o:LP N (.region j b i)=true):CoS P ih rf X N F (.region j b i):=by
 intro Q lv z m h n β a w r k s q;have d:∀β' g w',r.e = .nm->Sl X β' r.m _->g.tmps.size=N->g.defers=a.defers->Mv lv β h n w β' r.h r.n w'->Q .normal g w':=fun β' g w' y x h3 t M=>by
  have:=q β' g w' (s.mv M x h3 t) M;rw[y]at this;exact this
 cases i with
 |true=>exact QId p c (show(QDQ P X _).f ih lv m h n=some r from k) o s.sz s.ok s.gl s.lb s.sl d
 |false =>
  exact wpIn_region_list (OE p c k o s.sz s.ok s.gl s.lb (RS.start s.sl) rfl d)
theorem QKy{x y:Code}(hx:CoS P ih rf X N F x)(p:CoS P ih rf X N F y):CoS P ih rf X N F (.seq x y):=by
 intro Q lv E m h n β a w r q s i;obtain⟨o,t,b⟩:=Qc q;refine wpIn_seq (hx t s fun β' k w' g M=>?_);cases c:o.e with
 |nm =>
  rw[c]at b;exact p b g fun β'' j d f M'=>i β'' j d f (M.trans M')
 |ex z =>
  rw[c]at b;cases aa b;have:=i β' k w' g M;rw[c]at this;exact this
 |rt =>
  rw[c]at b;cases aa b;have:=i β' k w' g M;rw[c]at this;exact this
theorem QIk{c:Operand}{x y:Code}(hx:CoS P ih rf X N F x)(f:CoS P ih rf X N F y):CoS P ih rf X N F (.cond c x y):=by
 intro Q lv k m h n β a w r g s b;obtain⟨v,j,i⟩:=Qc g;obtain⟨t,h3,d⟩:=Qc i;have hv:=QAC (RS.start s.sl) s.gl c v j;rw[A.QI4 h3]at hv;refine wpIn_cond_split (V_b hv) (fun e=>?_) fun e=>?_
 ·subst e;exact hx d s b
 ·subst e;exact f d s b
theorem QGh{c:Nat}{x:Code}(hx:CoS P ih rf X N F x):CoS P ih rf X N F (.block c x):=by
 intro Q lv q m h n β a w r o s k;obtain⟨g,p,b⟩:=Qc o;refine wpIn_block (hx p s fun β' f w' j M=>?_);cases d:g.e with
 |nm =>
  rw[d]at b;cases aa b;have:=k β' f w' j M;rw[d]at this;exact this
 |ex i =>
  rw[d]at b;replace b:(bif ao i c then some (⟨.nm,u0,g.m,g.h,g.n⟩:R)else some g)=some r:=b;show(if i=c then Q .normal f w' else Q _ f w');by_cases e:i=c
  ·subst e;rw[bz]at b;cases aa b;rw[if_pos rfl];exact k β' f w' j M
  ·have:ao i c=false:=by
    cases hb:ao i c<;>simp_all
   rw[this]at b;cases aa b;rw[if_neg e];have:=k β' f w' j M;rw[d]at this;exact this
 |rt =>
  rw[d]at b;cases aa b;have:=k β' f w' j M;rw[d]at this;exact this
theorem QIj{x:Code}(hx:CoS P ih rf X N F x):CoS P ih rf X N F (.loop x):=by
 intro Q lv z m h n β a w r t s p;refine wpIn_loop_ghost (fun k g w'=>∃β' m' h' n',QGB _ k m' h' n'=some r/\Sta X N z lv β' m' h' n' g w'/\Mv lv β h n w β' h' n' w') lim ⟨β,m,h,n,t,s,Mv.refl s.ok⟩ ?_;rintro k K E ⟨β1,H,J,n1,g1,y,o⟩;cases k with
 |zero=>cases g1
 |succ k =>
  obtain⟨d,q,b⟩:=Qc (show bd _ (fun r=>Ex.casesOn r.e (QGB ((yz P rf X x).f ih lv) k r.m r.h r.n) (fun _=>some r) (some r))=some r from g1);refine hx q y fun β' g w' j M=>?_;cases c:d.e with
  |nm =>
   rw[c]at b;exact⟨k,Nat.lt_succ_self k,β',d.m,d.h,d.n,b,j,o.trans M⟩
  |ex i =>
   rw[c]at b;cases aa b;have:=p β' g w' j (o.trans M);rw[c]at this;exact this
  |rt =>
   rw[c]at b;cases aa b;have:=p β' g w' j (o.trans M);rw[c]at this;exact this
theorem QGg{x:Code}(b:rf=true->F=bV)(hx:CoS P ih rf X N F x):CoS P ih rf X N F (.scope x):=by
 intro Q lv o m h n β a w r d s g;obtain⟨j,i⟩:=Q9 d;have hx:=hx (Q:=Exit.noGoto Q) i s fun β' k w' c M=>by
  have:=g β' k w' c M;cases f:r.e<;>rw[f]at this<;>exact this
 rw[b j]at hx ⊢;exact wpIn_wide.2 (wp_scope_straight (wpIn_wide.1 hx))
end
end Go.Ev
