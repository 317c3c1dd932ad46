/-
  An evaluator of programs on given arguments, and that it is right.
-/
import Derived.Duo
import Derived.RowKit
import Derived.IntWalk
import Derived.Laws.Strings
import Derived.Laws.Cells
import Derived.Laws.BytesString
import Derived.Lib.Builder
set_option linter.all false



namespace Go.Ev
noncomputable def bd {α β : Type} (o : Option α) (k : α → Option β) : Option β := @Option.rec α (fun _ => Option β) none k o
noncomputable def gu {β : Type} (b : Bool) (k : Option β) : Option β := @Bool.rec (fun _ => Option β) none k b
noncomputable def cn {α : Type} (b : Bool) (x y : α) : α := @Bool.rec (fun _ => α) y x b
structure Bx (α : Type) where
  f : α
noncomputable section
inductive Po where
  | h
  | o (p : Po)
  | i (p : Po)
def Po.s (p : Po) : Po := Po.rec (.o .h) (fun p _ => .i p) (fun _ ih => .o ih) p
def Po.n (p : Po) : Nat := Po.rec 1 (fun _ ih => Nat.mul 2 ih) (fun _ ih => Nat.succ (Nat.mul 2 ih)) p
def Po.eq (p : Po) : Po → Bool := Po.rec (fun q => Po.casesOn q true (fun _ => false) (fun _ => false)) (fun _ ih q => Po.casesOn q false (fun q => ih q) (fun _ => false)) (fun _ ih q => Po.casesOn q false (fun _ => false) (fun q => ih q)) p
def poF : Nat → Nat → Po
  | 0, _ => .h
  | f + 1, t => cn (Nat.beq t 0) .h (cn (Nat.beq (Nat.land t 1) 0) (.o (poF f (Nat.shiftRight t 1))) (.i (poF f (Nat.shiftRight t 1))))
def po (t : Nat) : Po := poF t t
inductive Tr (α : Type) where
  | lf
  | nd (v : Option α) (l r : Tr α)
def Tr.v {α : Type} (t : Tr α) : Option α := Tr.casesOn t none (fun v _ _ => v)
def Tr.l {α : Type} (t : Tr α) : Tr α := Tr.casesOn t .lf (fun _ l _ => l)
def Tr.r {α : Type} (t : Tr α) : Tr α := Tr.casesOn t .lf (fun _ _ r => r)
def Tr.get {α : Type} (p : Po) : Tr α → Option α := Po.rec Tr.v (fun _ ih t => ih t.l) (fun _ ih t => ih t.r) p
def Tr.put {α : Type} (x : Option α) (p : Po) : Tr α → Tr α := Po.rec (fun t => .nd x t.l t.r) (fun _ ih t => .nd t.v (ih t.l) t.r) (fun _ ih t => .nd t.v t.l (ih t.r)) p

inductive A where
  | i (k : IntKind) (n : Int)
  | b (x : Bool)
  | s (l : List Nat)
  | k (v : Value)
  | p (n : Po) (off : Nat)
  | l (n : Po) (off len cap : Nat)
  | o (n : Po) (off len sz : Nat)
  | m (n : Po)
  | f (fn : FuncId) (cap : List A)
  | y (n : Po)
  | g (l : List A)
  | t (l : List A)
inductive O where
  | c (l : List A) (T : TypeId) (op : Bool)
  | r (l : List A) (T : TypeId)
  | m (es : List (A × A × Nat)) (clock : Nat)
  | si (l : List Nat) (pos : Nat)
  | mi (n : Po) (since : Nat) (seen : List Nat) (last : Nat)
  | lp (m : Tr A) (X : Nat → Bool) (ps : List Tmp) (as body : Code)
structure B where
  o : O
  lv : Nat
inductive Ex where
  | nm | ex (id : Nat) | rt
structure R where
  e : Ex
  a : A
  m : Tr A
  h : Tr B
  n : Po
def u0 : A := .t []

def ofV1 (v : Value) : A := match v with
  | .int k n => .i k n
  | .bool b => .b b
  | .string s => .s (s.data.toList.map UInt8.toNat)
  | v => .k v
def ofV (v : Value) : A := match v with
  | .agg cs => .g (cs.toList.map ofV1)
  | .tuple cs => .t (cs.toList.map ofV1)
  | v => ofV1 v

def ixD (t : Nat) (loc : List Nat) : Nat → Option Nat := List.rec (fun _ => none) (fun d _ ih k => cn (Nat.beq d t) (some k) (ih (Nat.succ k))) loc
abbrev Ac := List A → Tr A → Option A
def get1 (k : Nat) : List A → Option A := Nat.rec (fun l => List.casesOn l none fun a _ => some a) (fun _ ih l => List.casesOn l none fun _ r => ih r) k

def oaD (X : Nat → Bool) (loc : List Nat) (x : Operand) : Bx Ac := match x with
  | .tmp t => match ixD t loc 0 with
    | some i => ⟨fun st _ => get1 i st⟩
    | none => cn (X t) ⟨fun _ m => Tr.get (po t) m⟩ ⟨fun _ _ => none⟩
  | .const v => ⟨fun _ _ => some (ofV v)⟩
  | .global g => cn (Nat.ble g 60) ⟨fun _ _ => some (.p (po g) 0)⟩ ⟨fun _ _ => none⟩
  | .func f => ⟨fun _ _ => some (.f f [])⟩

structure Lc where
  X : Nat → Bool
  loc : List Nat
def ev (c : Lc) (x : Operand) (st : List A) (m : Tr A) : Option A := Bx.casesOn (oaD c.X c.loc x) fun f => f st m
def evs (c : Lc) (l : List Operand) (st : List A) (m : Tr A) : Option (List A) := List.rec (some []) (fun x _ ih => bd (ev c x st m) fun a => bd ih fun l => some (a :: l)) l
def A.cells (a : A) : List A := match a with
  | .g q1 => q1
  | a => [a]
def A.P (a : A) : Option (Po × Nat) := match a with | .p q1 q2 => some (q1, q2) | _ => none
def A.N (a : A) : Option Nat := match a with | .i _ (.ofNat n) => some n | _ => none
def A.I (a : A) : Option (IntKind × Int) := match a with | .i q1 q2 => some (q1, q2) | _ => none
def A.B (a : A) : Option Bool := match a with | .b x => some x | _ => none
def A.S (a : A) : Option (List Nat) := match a with | .s x => some x | _ => none
def A.G (a : A) : Option (List A) := match a with | .g x => some x | _ => none
def A.T (a : A) : Option (List A) := match a with | .t x => some x | _ => none
def A.M (a : A) : Option Po := match a with | .m x => some x | _ => none
def O.C (o : O) : Option (List A × TypeId × Bool) := match o with | .c l T op => some (l, T, op) | _ => none


def O.D (o : O) : Option (List A) := match o with | .c q1 _ _ => some q1 | .r q1 _ => some q1 | _ => none

def aggB (d : TypeDesc) : Bool := match d with | .struct _ | .array _ _ => true | _ => false
def isAgg (P : Program) (T : TypeId) : Option Bool := bd (P.underlying T) fun d => some (aggB d)
def sizeB (P : Program) (T : TypeId) : Option Nat := bd (P.info? T) fun i => some i.size
def slB (P : Program) (T : TypeId) : Option TypeId := bd (P.underlying T) fun d => match d with
  | .slice e => some e
  | _ => none
def strB (P : Program) (T : TypeId) : Bool := match P.underlying T with
  | some .string => true
  | _ => false
def slS (P : Program) (T : TypeId) : Option (TypeId × Nat) := bd (slB P T) fun e => bd (sizeB P e) fun s => some (e, s)
def zeroB (P : Program) (T : TypeId) : Option (List A) := bd (P.info? T) fun i => bd i.zero fun v => some (v.cells.toList.map ofV1)
def fldB (P : Program) (T : TypeId) (f : Nat) : Option (Nat × TypeId) := bd (P.underlying T) fun d => match d with
  | .struct fs => bd fs[f]? fun x => some (x.offset, x.type)
  | _ => none


def wr64 (n : Int) : Int := match n with
  | .ofNat m => bif Nat.ble m 9223372036854775807 then .ofNat m else IntKind.i64.wrap (.ofNat m)
  | .negSucc m => bif Nat.ble m 9223372036854775807 then .negSucc m else IntKind.i64.wrap (.negSucc m)
def wru (n : Int) : Int := match n with
  | .ofNat m => .ofNat (Nat.mod m 18446744073709551616)
  | .negSucc m => IntKind.u64.wrap (.negSucc m)
def wrp (k : IntKind) : Bx (Int → Int) := match k with
  | .i64 => ⟨wr64⟩
  | .u64 => ⟨wru⟩
  | k => ⟨k.wrap⟩
def wr (k : IntKind) (n : Int) : Int := Bx.casesOn (wrp k) fun f => f n
def lsI (a b : Int) : Bool := match a, b with
  | .ofNat a, .ofNat b => Nat.ble (Nat.succ a) b
  | .negSucc a, .negSucc b => Nat.ble (Nat.succ b) a
  | .negSucc _, .ofNat _ => true
  | .ofNat _, .negSucc _ => false
def eqI (a b : Int) : Bool := match a, b with
  | .ofNat a, .ofNat b => Nat.beq a b
  | .negSucc a, .negSucc b => Nat.beq a b
  | _, _ => false
def adI (a b : Int) : Int := match a, b with
  | .ofNat a, .ofNat b => .ofNat (Nat.add a b)
  | a, b => Int.add a b
def muI (a b : Int) : Int := match a, b with
  | .ofNat a, .ofNat b => .ofNat (Nat.mul a b)
  | a, b => Int.mul a b
def andN (k : IntKind) (a b : Int) : Int := match k, a, b with
  | .u64, .ofNat x, .ofNat y => .ofNat (Nat.mod (Nat.land x y) 18446744073709551616)
  | k, a, b => k.wrap (BitVec.ofInt k.bits a &&& BitVec.ofInt k.bits b).toNat
def shrN (a : Int) (n : Nat) : Int := match a with
  | .ofNat x => .ofNat (Nat.div x (Nat.pow 2 n))
  | .negSucc x => Int.fdiv (.negSucc x) (2 ^ n)
def binI (op : BinOp) : Bx (IntKind → Int → Int → Option A) := match op with
  | .add => ⟨fun k a b => some (.i k (wr k (adI a b)))⟩
  | .sub => ⟨fun k a b => some (.i k (wr k (Int.sub a b)))⟩
  | .mul => ⟨fun k a b => some (.i k (wr k (muI a b)))⟩
  | .quo => ⟨fun k a b => bif eqI b 0 then none else some (.i k (wr k (Int.tdiv a b)))⟩
  | .rem => ⟨fun k a b => bif eqI b 0 then none else some (.i k (Int.tmod a b))⟩
  | .and => ⟨fun k a b => some (.i k (andN k a b))⟩
  | .or => ⟨fun k a b => some (.i k (k.wrap (BitVec.ofInt k.bits a ||| BitVec.ofInt k.bits b).toNat))⟩
  | .xor => ⟨fun k a b => some (.i k (k.wrap (BitVec.ofInt k.bits a ^^^ BitVec.ofInt k.bits b).toNat))⟩
  | .andNot => ⟨fun _ _ _ => none⟩
  | .shl => ⟨fun k a b => match b with | .ofNat b => some (.i k (wr k (muI a (.ofNat (Nat.pow 2 (Nat.min b k.bits)))))) | .negSucc _ => none⟩
  | .shr => ⟨fun k a b => match b with | .ofNat b => some (.i k (shrN a (Nat.min b k.bits))) | .negSucc _ => none⟩
  | .eql => ⟨fun _ a b => some (.b (eqI a b))⟩
  | .neq => ⟨fun _ a b => some (.b (!eqI a b))⟩
  | .lss => ⟨fun _ a b => some (.b (lsI a b))⟩
  | .leq => ⟨fun _ a b => some (.b (!lsI b a))⟩
  | .gtr => ⟨fun _ a b => some (.b (lsI b a))⟩
  | .geq => ⟨fun _ a b => some (.b (!lsI a b))⟩
def eqL (l : List Nat) : List Nat → Bool := List.rec (fun q => List.casesOn q true fun _ _ => false) (fun a _ ih q => List.casesOn q false fun b r => cn (Nat.beq a b) (ih r) false) l
def nilS (a : A) : Bool := match a with | .k (.slice none _ _) => true | _ => false
def eqSl (x y : A) : Option Bool := match x, y with
  | .k (.slice none _ _), .k (.slice none _ _) => some true
  | .k (.slice none _ _), .l _ _ _ _ => some false
  | .k (.slice none _ _), .o _ _ _ _ => some false
  | .l _ _ _ _, .k (.slice none _ _) => some false
  | .o _ _ _ _, .k (.slice none _ _) => some false
  | _, _ => none
def eqPt (x y : A) : Option Bool := match x, y with
  | .k (.pointer none), .k (.pointer none) => some true
  | .k (.pointer none), .p _ _ => some false
  | .p _ _, .k (.pointer none) => some false
  | .p n o, .p n' o' => cn (Po.eq n n') (cn (Nat.beq o o') (some true) none) none
  | _, _ => none
def eqFn (x y : A) : Option Bool := match x, y with
  | .k .nilFunc, .k .nilFunc => some true
  | .k .nilFunc, .f _ _ => some false
  | .f _ _, .k .nilFunc => some false
  | _, _ => none
def eqIf (x y : A) : Option Bool := match x, y with
  | .k .nilIface, .k .nilIface => some true
  | _, _ => none
def eqBl (x y : A) : Option Bool := match x, y with
  | .b a, .b b => some (a == b)
  | _, _ => none
def sameK (a b : IntKind) : Bool := match a, b with
  | .i8, .i8 | .i16, .i16 | .i32, .i32 | .i64, .i64 | .u8, .u8 | .u16, .u16 | .u32, .u32 | .u64, .u64 => true
  | _, _ => false
def eqIn (x y : A) : Option Bool := match x, y with
  | .i k a, .i k' b => cn (sameK k k') (some (eqI a b)) none
  | _, _ => none
def eqSt (x y : A) : Option Bool := match x, y with
  | .s a, .s b => some (eqL a b)
  | _, _ => none

def eq1 (P : Program) (T : TypeId) : Bx (A → A → Option Bool) := match P.underlying T with
  | some (.int _) => ⟨eqIn⟩
  | some .string => ⟨eqSt⟩
  | some .bool => ⟨eqBl⟩
  | _ => ⟨fun _ _ => none⟩
def eqFs (P : Program) (fs : List Field) (xs ys : List A) : Option Bool := List.rec (some true) (fun f _ ih => gu (f.name != "_") (bd (get1 f.offset xs) fun x => bd (get1 f.offset ys) fun y => Bx.casesOn (eq1 P f.type) fun e => bd (e x y) fun t => cn t ih (some false))) fs
def eqD (P : Program) (T : TypeId) : Bx (A → A → Option Bool) := match P.underlying T with
  | some (.slice _) => ⟨eqSl⟩
  | some (.pointer e) => cn (P.info? e).isSome ⟨eqPt⟩ ⟨fun _ _ => none⟩
  | some (.func _ _ _) => ⟨eqFn⟩
  | some (.interface _) => ⟨eqIf⟩
  | some (.struct fs) => cn (!P.stoodInHeld T && !P.eqGuardType P.depth T) ⟨fun x y => bd x.G fun xs => bd y.G fun ys => eqFs P fs.toList xs ys⟩ ⟨fun _ _ => none⟩
  | _ => eq1 P T
def lim : Nat := 1000000
def binS (op : BinOp) (a b : List Nat) : Option A := match op with
  | .add => gu (Nat.ble (a.length + b.length) lim) (some (.s (a ++ b)))
  | .eql => some (.b (eqL a b))
  | .neq => some (.b (!eqL a b))
  | _ => none
def binO (P : Program) (T : TypeId) (op : BinOp) (x y : A) : Option A := match op with
  | .eql => Bx.casesOn (eqD P T) fun e => bd (e x y) fun e => some (.b e)
  | .neq => Bx.casesOn (eqD P T) fun e => bd (e x y) fun e => some (.b (!e))
  | _ => none
def isSh (op : BinOp) : Bool := match op with | .shl | .shr => true | _ => false
def bin (P : Program) (T : TypeId) (op : BinOp) (x y : A) : Option A := match x, y with
  | .i k a, .i k' b => cn (isSh op || sameK k k') (Bx.casesOn (binI op) fun f => f k a b) none
  | .s a, .s b => binS op a b
  | x, y => binO P T op x y


def vone (v : Value) : Bool := match v with | .agg _ | .tuple _ => false | _ => true
def A.ok (a : A) : Bool := match a with | .k q1 => vone q1 | _ => true
def A.one (a : A) : Bool := match a with | .g _ | .t _ => false | .k q1 => vone q1 | _ => true
def getAt (n : Nat) (k : Nat) : List A → Option (List A) := Nat.rec (fun l => bif Nat.ble n l.length then some (l.take n) else none) (fun _ ih l => List.casesOn l none fun _ r => ih r) k
def putAt (vs : List A) (k : Nat) : List A → Option (List A) := Nat.rec (fun l => bif Nat.ble vs.length l.length then some (vs ++ l.drop vs.length) else none) (fun _ ih l => List.casesOn l none fun x r => bd (ih r) fun q => some (x :: q)) k
def cellsOf (h : Tr B) (n : Po) (off len : Nat) : Option (List A) := bd (h.get n) fun b => bd b.o.D fun c => getAt len off c
def loadV (P : Program) (T : TypeId) : Bx (Tr B → Po → Nat → Option A) := match isAgg P T, sizeB P T with
  | some true, some sz => ⟨fun h n off => bd (cellsOf h n off sz) fun l => some (.g l)⟩
  | some false, _ => ⟨fun h n off => bd (h.get n) fun b => bd b.o.D fun c => get1 off c⟩
  | _, _ => ⟨fun _ _ _ => none⟩
def storeV (lv : Nat) (h : Tr B) (n : Po) (off : Nat) (vs : List A) : Option (Tr B) := bd (h.get n) fun b => gu (Nat.ble lv b.lv) (gu (vs.all A.one) (bd b.o.C fun c => bd (putAt vs off c.1) fun l => some (h.put (some ⟨.c l c.2.1 c.2.2, b.lv⟩) n)))
def rz (a : A) (h : Tr B) (n : Po) : Option R := some ⟨.nm, a, .lf, h, n⟩
def va (x : Option A) (h : Tr B) (n : Po) : Option R := bd x fun a => rz a h n
def nw (o : O) (a : Po → A) (lv : Nat) (h : Tr B) (n : Po) : Option R := rz (a n) (h.put (some ⟨o, lv⟩) n) n.s

def lit (sz : Nat) (ps : List (Nat × A)) : Nat → Option (List A) := List.rec (fun _ => some []) (fun p _ ih k => gu (Nat.beq p.1 k) (gu (Nat.beq p.2.cells.length sz) (bd (ih (Nat.succ k)) fun l => some (p.2.cells ++ l)))) ps
def rep (z : List A) (n : Nat) : List A := Nat.rec [] (fun _ ih => z ++ ih) n
def parts (c : Lc) (l : List (Nat × Operand)) (st : List A) (m : Tr A) : Option (List (Nat × A)) := List.rec (some []) (fun p _ ih => bd (ev c p.2 st m) fun v => bd ih fun l => some ((p.1, v) :: l)) l
def fill (place : Nat → Option (Nat × Nat)) (ps : List (Nat × A)) : List A → Option (List A) := List.rec (fun cs => some cs) (fun p _ ih cs => bd (place p.1) fun q => gu (Nat.beq p.2.cells.length q.2) (bd (putAt p.2.cells q.1 cs) fun cs => ih cs)) ps
def asBytes (l : List Nat) : List A := l.map fun c => .i .u8 (.ofNat c)
def elems (sz : Nat) (h : Tr B) (x : A) : Option (List A) := match x with
  | .k (.slice none 0 0) => some []
  | .l n off len _ => cellsOf h n off (len * sz)
  | .o n off len _ => cellsOf h n off (len * sz)
  | _ => none
def lenA (x : A) : Option Nat := match x with
  | .k (.slice none l _) => some l
  | .l _ _ len _ => some len
  | .o _ _ len _ => some len
  | _ => none

def srcD (P : Program) (T : TypeId) (sz : Nat) : Bx (Tr B → A → Option (Nat × List A)) := match P.underlying T with
  | some (.slice _) => ⟨fun h x => bd (lenA x) fun k => bd (elems sz h x) fun vs => some (k, vs)⟩
  | some .string => cn (Nat.beq sz 1) ⟨fun _ x => bd x.S fun l => some (l.length, asBytes l)⟩ ⟨fun _ _ => none⟩
  | _ => ⟨fun _ _ => none⟩
def byU (a : A) : Option Nat := match a with | .i .u8 (.ofNat c) => some c | _ => none
def bytesU (l : List A) : Option (List Nat) := List.rec (some []) (fun a _ ih => bd (byU a) fun c => gu (Nat.ble c 255) (bd ih fun l => some (c :: l))) l
def findE (eq : A → A → Option Bool) (k : A) (es : List (A × A × Nat)) : Nat → Option (Option (Nat × A)) := List.rec (fun _ => some none) (fun e _ ih i => bd (eq k e.1) fun t => cn t (some (some (i, e.2.1))) (ih (Nat.succ i))) es

def mapD (P : Program) (T : TypeId) : Option (Bx (A → A → Option Bool) × TypeId) := bd (P.underlying T) fun d => match d with
  | .map kt e => (match P.underlying kt with
    | some (.int _) => some (eq1 P kt, e)
    | some .string => some (eq1 P kt, e)
    | _ => none)
  | _ => none
def setE (v : A) : Nat → List (A × A × Nat) → List (A × A × Nat)
  | _, [] => []
  | 0, (k, _, b) :: r => (k, v, b) :: r
  | i + 1, e :: r => e :: setE v i r
def evO (c : Lc) (x : Option Operand) (st : List A) (m : Tr A) : Option (Option Nat) := match x with
  | none => some none
  | some x => bd (ev c x st m) fun a => bd a.N fun n => some (some n)
def appendL (lv : Nat) (sz e : Nat) (k : Nat) (vs : List A) (h : Tr B) (nx : Po) (x : A) : Option R := match x with
  | .k (.slice none 0 0) => bif Nat.beq k 0 then rz x h nx else gu (Nat.ble k lim) (nw (.c vs e true) (.o · 0 k sz) lv h nx)
  | .l n off len cap => bif Nat.ble (len + k) cap then bd (storeV lv h n (off + len * sz) vs) fun h => rz (.l n off (len + k) cap) h nx
      else bd (cellsOf h n off (len * sz)) fun us => gu (Nat.ble (len + k) lim) (nw (.c (us ++ vs) e true) (.o · 0 (len + k) sz) lv h nx)
  | .o n off len z => bd (h.get n) fun b => bd b.o.C fun c => gu (Nat.beq z sz && Nat.beq c.2.1 e) <| gu c.2.2 (
      bif Nat.ble (off + (len + k) * sz) c.1.length then bd (storeV lv h n (off + len * sz) vs) fun h => rz (.o n off (len + k) sz) h nx
      else gu (Nat.beq off 0) <| gu (Nat.beq (off + len * sz) c.1.length) (gu (Nat.ble lv b.lv) (gu (Nat.ble (len + k) lim) (rz (.o nx 0 (len + k) sz) ((h.put none n).put (some ⟨.c (c.1 ++ vs) e true, lv⟩) nx) nx.s))))
  | _ => none
def append (P : Program) (T U : TypeId) : Bx (Nat → Tr B → Po → A → A → Option R) := match slS P T with
  | none => ⟨fun _ _ _ _ _ => none⟩
  | some q => match P.info? q.1 with
    | none => ⟨fun _ _ _ _ _ => none⟩
    | some i => cn (Nat.ble i.bytes 1000 && (Nat.beq ((zeroB P q.1).getD []).length q.2 && Nat.ble 1 q.2)) (Bx.casesOn (srcD P U q.2) fun f => ⟨fun lv h nx x y => bd (f h y) fun s => gu (Nat.beq s.2.length (s.1 * q.2)) (gu (s.2.all A.one) (appendL lv q.2 q.1 s.1 s.2 h nx x))⟩) ⟨fun _ _ _ _ _ => none⟩

inductive Tk where
  | ca (lv : Nat) (f : FuncId) (args : List A) (h : Tr B) (n : Po)
  | rd (lv : Nat) (r : Po) (args : List A) (h : Tr B) (n : Po)
abbrev Ih := Tk → Option R
def u8B (P : Program) (T : TypeId) : Bool := match P.underlying T with
  | some (.int .u8) => true
  | _ => false
def okN (x : A) : Bool := match x with
  | .p _ _ => true
  | .f _ _ => true
  | _ => false
def utf (l : List Nat) (pos : Nat) : Option (Nat × Nat) := bd l[pos]? fun c => gu (Nat.ble c 127) (some (c, 1))
def num (n : Nat) : A := .i .i64 (.ofNat n)
def bi (P : Program) (b : Builtin) (T U : TypeId) : Bx (Nat → Tr B → Po → List A → Option R) := match b with
  | .append => Bx.casesOn (append P T U) fun f => ⟨fun lv h n xs => match xs with
    | [x, y] => f lv h n x y
    | _ => none⟩
  | .copy => (match slS P T with
    | none => ⟨fun _ _ _ _ => none⟩
    | some q => Bx.casesOn (srcD P U q.2) fun f => ⟨fun lv h n xs => match xs with
      | [x, y] => bd (f h y) fun s => gu (Nat.beq s.2.length (s.1 * q.2)) (match x with
        | .k (.slice none 0 _) => rz (num 0) h n
        | .l d off a _ => bd (storeV lv h d off (s.2.take (Nat.min s.1 a * q.2))) fun h => rz (num (Nat.min s.1 a)) h n
        | .o d off a _ => bd (storeV lv h d off (s.2.take (Nat.min s.1 a * q.2))) fun h => rz (num (Nat.min s.1 a)) h n
        | _ => none)
      | _ => none⟩)
  | .unsafeSliceData => ⟨fun _ h n xs => match xs with
    | [.l d off _ (_ + 1)] => rz (.p d off) h n
    | [.o d off (_ + 1) _] => rz (.p d off) h n
    | [.k (.slice none _ _)] => rz (.k (.pointer none)) h n
    | _ => none⟩
  | .unsafeString => (match P.underlying T with
    | some (.pointer e) => cn (Nat.beq (P.cellsOf e) 1) ⟨fun lv h n xs => match xs with
      | [.p _ _, .i _ (.ofNat 0)] => rz (.s []) h n
      | [.k (.pointer none), .i _ (.ofNat 0)] => rz (.s []) h n
      | [.p d off, .i .i64 (.ofNat k)] => gu (Nat.beq off 0) <| gu (Nat.ble k lim) <| bd (h.get d) fun b => gu (Nat.ble lv b.lv) (bd b.o.C fun c => gu (Nat.beq c.2.1 e) (bd (getAt k 0 c.1) fun l => bd (bytesU l) fun bs => rz (.s bs) (h.put none d) n))
      | _ => none⟩ ⟨fun _ _ _ _ => none⟩
    | _ => ⟨fun _ _ _ _ => none⟩)
  | _ => ⟨fun _ _ _ _ => none⟩
def ifG (a : A) (b : Bool) : Bool := match a with | .k .nilIface => b | _ => true
def isC (x : Operand) : Bool := match x with | .const _ => true | _ => false
def convD (P : Program) (src d : TypeId) : Bx (Tr B → A → Option A) := match P.underlying src, P.underlying d with
  | some _, some (.int k) => ⟨fun _ x => bd x.I fun q => some (.i k (wr k q.2))⟩
  | some (.slice e), some .string => (match P.underlying e with
    | some (.int .u8) => ⟨fun h x => bd (lenA x) fun k => bd (elems 1 h x) fun l => gu (Nat.beq l.length k) (bd (bytesU l) fun l => some (.s l))⟩
    | _ => ⟨fun _ _ => none⟩)
  | some .string, some .string => ⟨fun _ x => bd x.S fun l => some (.s l)⟩
  | some (.pointer t), some .unsafePointer => ⟨fun h x => bd x.P fun q => bd (h.get q.1) fun b => bd b.o.C fun c => gu (Nat.ble (Nat.succ q.2) c.1.length) (gu ((P.info? t).any fun j => j.size != 0) (some x))⟩
  | some .unsafePointer, some (.pointer t) => ⟨fun h x => bd x.P fun q => bd (h.get q.1) fun b => bd b.o.C fun c => gu (!c.2.2) (gu (liesAt P P.depth c.2.1 (c.1.length / P.cellsOf c.2.1) q.2 t 1) (gu (P.info? t).isSome (some x)))⟩
  | _, _ => ⟨fun _ _ => none⟩
def mapPut (eq : A → A → Option Bool) (lv : Nat) (h : Tr B) (n q : Po) (k v : A) : Option R := bd (h.get q) fun b => gu (Nat.ble lv b.lv) (match b.o with
    | .m es c => bd (findE eq k es 0) fun r => rz u0 (h.put (some ⟨(match r with | some x => .m (setE v x.1 es) c | none => .m (es ++ [(k, v, c)]) (c + 1)), b.lv⟩) q) n
    | _ => none)
def sliceD (P : Program) (T : TypeId) (av hv : Option Nat) (x : A) : Option A := match x with
  | .s l => gu (strB P T) (gu (Nat.ble (av.getD 0) (hv.getD l.length)) (gu (Nat.ble (hv.getD l.length) l.length) (some (.s ((l.take (hv.getD l.length)).drop (av.getD 0))))))
  | .l q off len cap => bd (slS P T) fun e => gu (Nat.ble (av.getD 0) (hv.getD len)) (gu (Nat.ble (hv.getD len) cap)
    (some (.l q (cn (Nat.beq cap (av.getD 0)) off (off + av.getD 0 * e.2)) (hv.getD len - av.getD 0) (cap - av.getD 0))))
  | .o q off len sz => bd (slS P T) fun e => gu (Nat.beq sz e.2) (gu (Nat.ble (av.getD 0) (hv.getD len)) (gu (Nat.ble (hv.getD len) len) (gu (Nat.ble 1 sz) (gu (Nat.ble (Nat.succ (av.getD 0)) len) (some (.o q (off + av.getD 0 * sz) (hv.getD len - av.getD 0) sz))))))
  | .p q off => bd (P.underlying T) fun d => (match d with
    | .array len e => bd (sizeB P e) fun sz => gu (Nat.ble (av.getD 0) (hv.getD len)) (gu (Nat.ble (hv.getD len) len) (some (.l q (cn (Nat.beq len (av.getD 0)) off (off + av.getD 0 * sz)) (hv.getD len - av.getD 0) (len - av.getD 0))))
    | _ => none)
  | .k (.slice none 0 0) => bd (slS P T) fun _ => gu (Nat.beq (av.getD 0) 0) (gu (Nat.beq (hv.getD 0) 0) (some x))
  | _ => none
def idxS (sz : Nat) (x : A) (i : Nat) : Option A := match x with
  | .l n off len _ => gu (Nat.ble (Nat.succ i) len) (some (.p n (off + i * sz)))
  | .o n off len s => gu (Nat.ble (Nat.succ i) len) (gu (Nat.beq s sz) (some (.p n (off + i * sz))))
  | _ => none
def idxA (len sz : Nat) (x : A) (i : Nat) : Option A := bd x.P fun q => gu (Nat.ble (Nat.succ i) len) (some (.p q.1 (q.2 + i * sz)))
def idxD (P : Program) (T : TypeId) : Bx (A → Nat → Option A) := match P.underlying T with
  | some (.slice e) => (match sizeB P e with
    | some sz => ⟨idxS sz⟩
    | none => ⟨fun _ _ => none⟩)
  | some (.array len e) => (match sizeB P e with
    | some sz => ⟨idxA len sz⟩
    | none => ⟨fun _ _ => none⟩)
  | _ => ⟨fun _ _ => none⟩
def placeD (P : Program) (T : TypeId) : Nat → Option (Nat × Nat) := fun i => bd (P.underlying T) fun d => match d with
  | .struct _ => bd (fldB P T i) fun q => bd (sizeB P q.2) fun n => some (q.1, n)
  | .array _ e => bd (sizeB P e) fun sz => some (i * sz, sz)
  | _ => none
def bldOk (P : Program) (T : TypeId) : Bool := match P.underlying T with
  | some (.struct fs) => fs.toList.all fun f => (P.info? f.type).isSome
  | some (.array _ e) => (sizeB P e).isSome
  | _ => false

def nextE (es : List (A × A × Nat)) (seen : List Nat) : List (A × A × Nat) := es.filter fun e => !seen.contains e.2.2
def minmax (b : Builtin) (xs : List A) : Option A := match b, xs with
  | .min, [.i k a, .i _ b] => some (.i k (cn (lsI b a) b a))
  | .max, [.i k a, .i _ b] => some (.i k (cn (lsI a b) b a))
  | .min, [.i k a, .i _ b, .i _ c] => some (.i k (cn (lsI c (cn (lsI b a) b a)) c (cn (lsI b a) b a)))
  | .max, [.i k a, .i _ b, .i _ c] => some (.i k (cn (lsI (cn (lsI a b) b a) c) c (cn (lsI a b) b a)))
  | .cap, [.l _ _ _ c] => some (num c)
  | .cap, [.k (.slice none _ c)] => some (num c)
  | _, _ => none

def puD (P : Program) (c : Lc) (o : Op) : Option (Bx Ac) := match o with
  | .move x => some (oaD c.X c.loc x)
  | .assign x => some (oaD c.X c.loc x)
  | .pick x a b => some ⟨fun st m => bd (ev c x st m) fun x => bd x.B fun t => bif t then ev c a st m else ev c b st m⟩
  | .build T ps => some ⟨fun st m => gu (bldOk P T) <| bd (zeroB P T) fun z => bd (parts c ps.toList st m) fun l => gu (l.all fun p => p.2.ok) (bd (fill (placeD P T) l z) fun cs => some (.g cs))⟩
  | .nilCheck x => some ⟨fun st m => bd (ev c x st m) fun v => gu (okN v) (some v)⟩
  | .binOp op T x y _ => some ⟨fun st m => bd (ev c x st m) fun a => bd (ev c y st m) fun b => gu (ifG a (isC x || isC y)) (bin P T op a b)⟩
  | .unOp .not _ x => some ⟨fun st m => bd (ev c x st m) fun a => bd a.B fun t => some (.b (!t))⟩
  | .unOp .neg _ x => some ⟨fun st m => bd (ev c x st m) fun a => bd a.I fun q => some (.i q.1 (wr q.1 (Int.neg q.2)))⟩
  | .makeFunc (.func fn) a b => some ⟨fun st m => gu a.toList.isEmpty (bd (evs c b.toList st m) fun y => some (.f fn y))⟩
  | .slice T x lo hi none => some ⟨fun st m => bd (ev c x st m) fun a => bd (evO c lo st m) fun av => bd (evO c hi st m) fun hv => sliceD P T av hv a⟩
  | .fieldAddr T x f => some ⟨fun st m => bd (ev c x st m) fun a => bd a.P fun q => bd (fldB P T f) fun p => bd (sizeB P p.2) fun s => gu (Nat.ble 1 s) (some (.p q.1 (Nat.add q.2 p.1)))⟩
  | .field T x f => some ⟨fun st m => bd (ev c x st m) fun a => bd a.G fun l => bd (fldB P T f) fun p => bd (isAgg P p.2) fun g => bif g then bd (sizeB P p.2) fun sz => bd (getAt sz p.1 l) fun l => some (.g l) else get1 p.1 l⟩
  | .indexAddr T x y => some ⟨fun st m => bd (ev c x st m) fun a => bd (ev c y st m) fun b => bd b.N fun i => Bx.casesOn (idxD P T) fun f => f a i⟩
  | .index T x y => some ⟨fun st m => gu (strB P T) <| bd (ev c x st m) fun a => bd a.S fun l => bd (ev c y st m) fun b => bd b.N fun i => bd l[i]? fun c => some (.i .u8 (.ofNat c))⟩
  | .extract x i => some ⟨fun st m => bd (ev c x st m) fun a => bd a.T fun l => get1 i l⟩
  | .call ⟨.builtin .min, args, _⟩ => some ⟨fun st m => bd (evs c args.toList st m) fun xs => minmax .min xs⟩
  | .call ⟨.builtin .max, args, _⟩ => some ⟨fun st m => bd (evs c args.toList st m) fun xs => minmax .max xs⟩
  | .call ⟨.builtin .cap, args, ts⟩ => (match bd ts[0]? (slB P) with
    | some _ => some ⟨fun st m => bd (evs c args.toList st m) fun xs => minmax .cap xs⟩
    | _ => none)
  | _ => none
def zeroV (P : Program) (T : TypeId) : Option A := bd (P.info? T) fun i => bd i.zero fun v => some (ofV v)
def lookV (P : Program) (T : TypeId) (r : Option (Nat × A)) : Option A := match r with
  | some x => some x.2
  | none => zeroV P T
def lenD (P : Program) (ts : Array TypeId) : Bx (Tr B → A → Option A) := match bd ts[0]? P.underlying with
  | some .string => ⟨fun _ x => bd x.S fun l => some (num l.length)⟩
  | some (.slice _) => ⟨fun _ x => bd (lenA x) fun k => some (num k)⟩
  | some (.map _ _) => ⟨fun h x => bd x.M fun q => bd (h.get q) fun b => (match b.o with | .m es _ => some (num es.length) | _ => none)⟩
  | _ => ⟨fun _ _ => none⟩
abbrev Me := List A → Tr A → Tr B → Option A

def meD (P : Program) (c : Lc) (o : Op) : Option (Bx Me) := match o with
  | .load T x => some ⟨fun st m h => bd (ev c x st m) fun a => bd a.P fun q => Bx.casesOn (loadV P T) fun f => f h q.1 q.2⟩
  | .lookup T x y ok => (match mapD P T with
    | none => none
    | some q => Bx.casesOn q.1 fun eq => some ⟨fun st m h => bd (ev c x st m) fun a => bd a.M fun n => bd (ev c y st m) fun k => bd (h.get n) fun b => (match b.o with
      | .m es _ => bd (findE eq k es 0) fun r => bd (lookV P q.2 r) fun v => some (cn ok (.t [v, .b r.isSome]) v)
      | _ => none)⟩)
  | .entry x => some ⟨fun st m h => bd (ev c x st m) fun a => bd a.P fun q => gu (Nat.beq q.2 0) <| bd (h.get q.1) fun b => match b.o with
    | .mi p _ (e :: _) last => bd (h.get p) fun d => (match d.o with
      | .m es clock => gu (Nat.beq clock last) (bd (es.find? fun x => Nat.beq x.2.2 e) fun x => some (.t [x.1, x.2.1]))
      | _ => none)
    | _ => none⟩
  | .call ⟨.builtin .len, args, ts⟩ => Bx.casesOn (lenD P ts) fun f => some ⟨fun st m h => bd (evs c args.toList st m) fun xs => match xs with
    | [x] => f h x
    | _ => none⟩
  | .convert s d x => (match P.underlying s, P.underlying d with
    | some .string, some (.slice _) => none
    | _, _ => some ⟨fun st m h => bd (ev c x st m) fun a => Bx.casesOn (convD P s d) fun f => f h a⟩)
  | _ => none
abbrev Ne := Nat → List A → Tr A → Option (O × (Po → A))

def neD (P : Program) (c : Lc) (o : Op) : Option (Bx (List A → Tr A → Option (O × (Po → A)))) := match o with
  | .alloc T => some ⟨fun _ _ => bd (zeroB P T) fun z => some (.c z T false, (.p · 0))⟩
  | .box T x => some ⟨fun st m => bd (ev c x st m) fun v => gu v.ok (some (.c v.cells T false, (.p · 0)))⟩
  | .buildSlice T k ps => some ⟨fun st m => bd (slS P T) fun q => gu (zeroB P q.1).isSome <| bd (parts c ps.toList st m) fun l => gu (l.all fun p => p.2.ok) <| bd (lit q.2 l 0) fun cs => gu (Nat.beq cs.length (k * q.2)) (gu (Nat.ble (k * q.2) 16777216) (some (.c cs q.1 false, (.l · 0 k k))))⟩
  | .makeMap _ none => some ⟨fun _ _ => some (.m [] 0, .m)⟩
  | .makeSlice T l n => some ⟨fun st m => bd (ev c l st m) fun a => bd a.N fun k => bd (ev c n st m) fun a => bd a.N fun n => bd (slS P T) fun q => bd (P.info? q.1) fun i => gu (Nat.ble i.bytes 1000) <| bd (zeroB P q.1) fun z => gu (Nat.beq z.length q.2) <| gu (Nat.ble k n) (gu (Nat.ble n 16777216) (some (.c (rep z n) q.1 false, (.l · 0 k n))))⟩
  | _ => none
abbrev Fo := Ih → Nat → List A → Tr A → Tr B → Po → Option R
def biT (P : Program) (b : Builtin) (ts : Array TypeId) : Bx (Nat → Tr B → Po → List A → Option R) := match ts.toList with
  | [T, U] => bi P b T U
  | [T] => (match b with | .unsafeSliceData => bi P b T T | _ => ⟨fun _ _ _ _ => none⟩)
  | _ => ⟨fun _ _ _ _ => none⟩

def loD (P : Program) (c : Lc) (o : Op) : Bx Fo := match o with
  | .store T x y => ⟨fun _ lv st m h n => bd (ev c x st m) fun a => bd a.P fun q => bd (ev c y st m) fun v => bd (sizeB P T) fun sz => gu (Nat.beq v.cells.length sz) (bd (storeV lv h q.1 q.2 v.cells) fun h => rz u0 h n)⟩
  | .mapUpdate T x y z => (match mapD P T with
    | none => ⟨fun _ _ _ _ _ _ => none⟩
    | some w => Bx.casesOn w.1 fun eq => ⟨fun _ lv st m h n => bd (ev c x st m) fun a => bd a.M fun q => bd (ev c y st m) fun k => bd (ev c z st m) fun v => mapPut eq lv h n q k v⟩)
  | .insert T x y z => (match mapD P T with
    | none => ⟨fun _ _ _ _ _ _ => none⟩
    | some w => Bx.casesOn w.1 fun eq => ⟨fun _ lv st m h n => bd (ev c x st m) fun a => bd a.M fun q => bd (ev c y st m) fun k => bd (ev c z st m) fun v => mapPut eq lv h n q k v⟩)
  | .range T x => (match P.underlying T with
    | some .string => ⟨fun _ lv st m h n => bd (ev c x st m) fun a => bd a.S fun l => nw (.si l 0) (.p · 0) lv h n⟩
    | some (.map _ _) => ⟨fun _ lv st m h n => bd (ev c x st m) fun a => bd a.M fun q => bd (h.get q) fun b => (match b.o with | .m _ c => nw (.mi q c [] c) (.p · 0) lv h n | _ => none)⟩
    | _ => ⟨fun _ _ _ _ _ _ => none⟩)
  | .next x str => ⟨fun _ lv st m h n => bd (ev c x st m) fun a => bd a.P fun q => gu (Nat.beq q.2 0) <| bd (h.get q.1) fun b => gu (Nat.ble lv b.lv) (match b.o with
    | .si l pos => gu str <| bif Nat.ble (Nat.succ pos) l.length then bd (utf l pos) fun c => rz (.t [.b true, num pos, .i .i32 (.ofNat c.1)]) (h.put (some ⟨.si l (pos + c.2), b.lv⟩) q.1) n else rz (.t [.b false]) h n
    | .mi p since seen last => gu (!str) <| bd (h.get p) fun d => (match d.o with
      | .m es clock => gu (seen.isEmpty || (es.isEmpty || !(es.all fun e => Nat.ble last e.2.2))) (match nextE es seen with
        | [] => rz (.t [.b false]) h n
        | [e] => gu (Nat.ble (Nat.succ e.2.2) since) <| rz (.t [.b true, e.1, e.2.1]) (h.put (some ⟨.mi p since (e.2.2 :: seen) clock, b.lv⟩) q.1) n
        | _ => none)
      | _ => none)
    | _ => none)⟩
  | .call ⟨.builtin b, args, ts⟩ => ⟨fun _ lv st m h n => bd (evs c args.toList st m) fun xs => Bx.casesOn (biT P b ts) fun f => f lv h n xs⟩
  | .call ⟨.value f, args, _⟩ => ⟨fun ih lv st m h n => bd (ev c f st m) fun a => bd (evs c args.toList st m) fun xs => match a with
    | .f g c => ih (.ca lv g (xs ++ c) h n)
    | .y r => ih (.rd lv r xs h n)
    | _ => none⟩
  | .convert s d x => ⟨fun _ lv st m h n => bd (ev c x st m) fun a => bd a.S fun l => bd (slB P d) fun e => gu (strB P s) (cn (u8B P e) (nw (.r (asBytes l) e) (.o · 0 l.length 1) lv h n) none)⟩
  | _ => ⟨fun _ _ _ _ _ _ => none⟩
def push (d : Option Tmp) (a : A) (st : List A) : List A := match d with | some _ => a :: st | none => st
def pushL (d : Option Tmp) (loc : List Nat) : List Nat := match d with | some d => d :: loc | none => loc

def opD (P : Program) (c : Lc) (o : Op) : Bx Fo := match puD P c o with
  | some g => Bx.casesOn g fun g => ⟨fun _ _ st m h n => bd (g st m) fun a => rz a h n⟩
  | none => match meD P c o with
    | some g => Bx.casesOn g fun g => ⟨fun _ _ st m h n => bd (g st m h) fun a => rz a h n⟩
    | none => match neD P c o with
      | some g => Bx.casesOn g fun g => ⟨fun _ lv st m h n => bd (g st m) fun q => nw q.1 q.2 lv h n⟩
      | none => loD P c o

def gdD (ops : List Oper) (o : Oper) : Option (Option Nat × Bool) := match o.guard with
  | none => none
  | some (g, want) => some (bd ops[g]? (·.dst), want)
def wanted (c : Lc) (g : Option Nat × Bool) (st : List A) (m : Tr A) : Option Bool := bd g.1 fun d => bd (ev c (.tmp d) st m) fun a => match a with
  | .b t => some (t == g.2)
  | .t [] => some false
  | _ => none

def flD (X : Nat → Bool) (loc : List Nat) : Bx (List A → Tr A → Tr A) := List.rec ⟨fun _ m => m⟩ (fun t _ k => Bx.casesOn k fun k => cn (X t) ⟨fun st m => List.casesOn st m fun a st => (k st m).put (some a) (po t)⟩ ⟨fun st m => List.casesOn st m fun _ st => k st m⟩) loc

def listD (P : Program) (X : Nat → Bool) (ops : List Oper) (l : List Oper) : List Nat → Bx Fo := List.rec (fun loc => Bx.casesOn (flD X loc) fun f => ⟨fun _ _ st m h n => some ⟨.nm, u0, f st m, h, n⟩⟩)
  (fun o _ k loc => Bx.casesOn (k (pushL o.dst loc)) fun k => match gdD ops o with
    | none => (match puD P ⟨X, loc⟩ o.op with
      | some g => Bx.casesOn g fun g => (match o.dst with
        | some _ => ⟨fun ih lv st m h n => bd (g st m) fun a => k ih lv (a :: st) m h n⟩
        | none => ⟨fun ih lv st m h n => bd (g st m) fun _ => k ih lv st m h n⟩)
      | none => Bx.casesOn (opD P ⟨X, loc⟩ o.op) fun f => ⟨fun ih lv st m h n => bd (f ih lv st m h n) fun r => k ih lv (push o.dst r.a st) m r.h r.n⟩)
    | some g => Bx.casesOn (opD P ⟨X, loc⟩ o.op) fun f => ⟨fun ih lv st m h n => bd (wanted ⟨X, loc⟩ g st m) fun t => cn t (bd (f ih lv st m h n) fun r => k ih lv (push o.dst r.a st) m r.h r.n) (k ih lv (push o.dst u0 st) m h n)⟩) l

def bit (m t : Nat) : Bool := Nat.beq (Nat.land (Nat.shiftRight m t) 1) 1

def dmA (acc : List Nat) (es : List Edge) : Nat := List.rec 0 (fun e _ ih => cn (Region.binds .any e) (Nat.lor ih (Nat.lor (Nat.shiftLeft 1 e.on) (acc.getD e.on 0))) ih) es
def dms (l : List Oper) : List Nat → List Nat := List.rec (fun acc => acc) (fun o _ ih acc => ih (acc ++ [dmA acc o.after.toList])) l

def loud (P : Program) (o : Op) : Bool := (puD P ⟨fun _ => false, []⟩ o).isNone && (meD P ⟨fun _ => false, []⟩ o).isNone && (neD P ⟨fun _ => false, []⟩ o).isNone
structure Pn where
  j : Nat
  n : Po
  b : B

structure Vw where
  h : Tr B
  pd : List Pn
def act (mask : Nat) (v : Vw) : Tr B := List.rec v.h (fun x _ ih => cn (bit mask x.j) (ih.put (some x.b) x.n) ih) v.pd
def actA (v : Vw) : Tr B := List.rec v.h (fun x _ ih => ih.put (some x.b) x.n) v.pd
def rst (mask : Nat) (pd : List Pn) : List Pn := List.rec [] (fun x _ ih => cn (bit mask x.j) ih (x :: ih)) pd
structure Ms where
  j : Nat
  g : Tr B → Option A
  mask : Nat
  a : A
structure Hv where
  j : Nat
  v : Vw
structure Z where
  st : List A
  v : Vw
  n : Po
  hs : List Hv
  ms : List Ms
def sameV (a b : Value) : Bool := match a, b with
  | .pointer none, .pointer none => true
  | .slice none a b, .slice none c d => Nat.beq a c && Nat.beq b d
  | .nilFunc, .nilFunc => true
  | .nilIface, .nilIface => true
  | .map none, .map none => true
  | _, _ => false
mutual
def same : A → A → Bool
  | .i k n, .i k' n' => sameK k k' && eqI n n'
  | .b x, .b y => x == y
  | .s x, .s y => eqL x y
  | .k x, .k y => sameV x y
  | .p n o, .p n' o' => Po.eq n n' && Nat.beq o o'
  | .l n o a b, .l n' o' a' b' => Po.eq n n' && (Nat.beq o o' && (Nat.beq a a' && Nat.beq b b'))
  | .o n o a b, .o n' o' a' b' => Po.eq n n' && (Nat.beq o o' && (Nat.beq a a' && Nat.beq b b'))
  | .m n, .m n' => Po.eq n n'
  | .f g l, .f g' l' => Nat.beq g g' && sames l l'
  | .g l, .g l' => sames l l'
  | .t l, .t l' => sames l l'
  | _, _ => false
def sames : List A → List A → Bool
  | [], [] => true
  | a :: l, b :: r => same a b && sames l r
  | _, _ => false
end

def ckE (g : Tr B → Option A) (mask : Nat) (a : A) (hs : List Hv) : Bool := List.rec true (fun x _ ih => cn (bit mask x.j) true (Option.casesOn (g (act mask x.v)) false fun a' => cn (same a' a) ih false)) hs

def nmP (n q : Po) : Bool := Nat.ble (Nat.succ q.n) n.n
mutual
def nmB (n : Po) : A → Bool
  | .p q _ => nmP n q
  | .l q _ _ _ => nmP n q
  | .o q _ _ _ => nmP n q
  | .m q => nmP n q
  | .y q => nmP n q
  | .f _ l => nmBs n l
  | .g l => nmBs n l
  | .t l => nmBs n l
  | _ => true
def nmBs (n : Po) : List A → Bool
  | [] => true
  | a :: l => nmB n a && nmBs n l
end

def ckM (dm : Nat) (v : Vw) (ms : List Ms) : Bool := List.rec true (fun x _ ih => cn (bit dm x.j) ih (Option.casesOn (x.g (act x.mask v)) false fun a => cn (same a x.a) ih false)) ms
abbrev Dz := Ih → Nat → Tr A → Z → Option Z

def stepZ (P : Program) (c : Lc) (o : Op) (i dm : Nat) (lt : Bool) : Bx Dz := match puD P c o with
  | some g => Bx.casesOn g fun g => ⟨fun _ _ m z => bd (g z.st m) fun a => some ⟨a :: z.st, z.v, z.n, z.hs, z.ms⟩⟩
  | none => match meD P c o with
    | some g => Bx.casesOn g fun g => ⟨fun _ _ m z => bd (g z.st m (act dm z.v)) fun a => gu (nmB z.n a) <| gu (ckE (g z.st m) dm a z.hs) (some ⟨a :: z.st, z.v, z.n, z.hs, cn lt (⟨i, g z.st m, dm, a⟩ :: z.ms) z.ms⟩)⟩
    | none => match neD P c o with
      | some g => Bx.casesOn g fun g => ⟨fun _ lv m z => bd (g z.st m) fun q => some ⟨q.2 z.n :: z.st, ⟨z.v.h, ⟨i, z.n, ⟨q.1, lv⟩⟩ :: z.v.pd⟩, z.n.s, z.hs, z.ms⟩⟩
      | none => Bx.casesOn (loD P c o) fun f => ⟨fun ih lv m z => bd (f ih lv z.st m (act dm z.v) z.n) fun r => gu (Nat.ble z.n.n r.n.n) <| gu (ckM dm ⟨r.h, rst dm z.v.pd⟩ z.ms) (some ⟨r.a :: z.st, ⟨r.h, rst dm z.v.pd⟩, r.n, ⟨i, z.v⟩ :: z.hs, z.ms⟩)⟩
def stepG (P : Program) (X : Nat → Bool) (loc : List Nat) (ops : List Oper) (o : Oper) (i dm : Nat) (lt : Bool) : Bx Dz := match gdD ops o with
  | none => stepZ P ⟨X, loc⟩ o.op i dm lt
  | some g => Bx.casesOn (stepZ P ⟨X, loc⟩ o.op i dm lt) fun f => ⟨fun ih lv m z => bd (wanted ⟨X, loc⟩ g z.st m) fun t => cn t (f ih lv m z) (some ⟨u0 :: z.st, z.v, z.n, (cn (loud P o.op) (⟨i, z.v⟩ :: z.hs) z.hs), z.ms⟩)⟩
def dstN (o : Oper) : Nat := match o.dst with | some d => d | none => 1000000
def anyL (ls : List Bool) (D : List Nat) (i : Nat) : Bool := (List.range ls.length).any fun j => Nat.ble (Nat.succ i) j && (ls.getD j false && !bit (D.getD j 0) i)
def drawL (P : Program) (X : Nat → Bool) (ops : List Oper) (D : List Nat) (ls : List Bool) (l : List Oper) : Nat → List Nat → Bx Dz := List.rec (fun _ _ => ⟨fun _ _ _ z => some z⟩)
  (fun o _ k i loc => Bx.casesOn (stepG P X loc ops o i (D.getD i 0) (anyL ls D i)) fun f => Bx.casesOn (k (Nat.succ i) (dstN o :: loc)) fun k => ⟨fun ih lv m z => bd (f ih lv m z) fun z => k ih lv m z⟩) l
def slotsOf (ops : List Oper) (o : Oper) : List Nat := (o.op.operands.toList.filterMap fun x => match x with | .tmp t => some t | _ => none) ++ (match gdD ops o with | some (some d, _) => [d] | _ => [])

def okR (P : Program) (ops : List Oper) (D : List Nat) (ls : List Bool) : Bool :=
  (List.range ops.length).all fun i => Option.casesOn ops[i]? false fun o => (o.after.toList.all fun e => !(Region.binds .any e) || Nat.ble (Nat.succ e.on) i) && (((slotsOf ops o).all fun t => Nat.ble (Nat.succ t) 1000000) &&
    (List.range ops.length).all fun j => Option.casesOn ops[j]? false fun q =>
      Nat.beq i j || (Option.casesOn q.dst true fun t => !(match o.dst with | some d => Nat.beq d t | none => false) && (!((slotsOf ops o).any (Nat.beq t)) || (bit (D.getD i 0) j || bit (D.getD j 0) i))) && (!(Nat.ble (Nat.succ i) j && (ls.getD i false && ls.getD j false)) || bit (D.getD j 0) i))
def drawD (P : Program) (X : Nat → Bool) (ops : List Oper) : Bx (Ih → Nat → Tr A → Tr B → Po → Option R) :=
  let D := dms ops []
  let ls := ops.map fun o => loud P o.op
  cn (P.follows .mixedOrders && (!X 1000000 && okR P ops D ls)) (Bx.casesOn (drawL P X ops D ls ops 0 []) fun f => Bx.casesOn (flD X (ops.map dstN).reverse) fun fl => ⟨fun ih lv m h n => bd (f ih lv m ⟨[], ⟨h, []⟩, n, [], []⟩) fun z => some ⟨.nm, u0, fl z.st m, actA z.v, z.n⟩⟩) ⟨fun _ _ _ _ _ => none⟩


def sub (o : O) : List A := match o with
  | .c l _ _ => l
  | .r l _ => l
  | .m es _ => es.flatMap fun e => [e.1, e.2.1]
  | _ => []
def keep (lv : Nat) (h1 : Tr B) (f : Nat) : List A → Tr B → Tr B := Nat.rec (fun _ h => h) (fun _ ih l h => List.casesOn l h fun a r =>
  let nm (n : Po) : Tr B := Option.casesOn (h.get n) (Option.casesOn (h1.get n) (ih r h) fun b => cn (Nat.ble (Nat.succ lv) b.lv) (ih (sub b.o ++ r) (h.put (some ⟨b.o, lv⟩) n)) (ih r h)) fun _ => ih r h
  match a with
  | .p n _ => nm n
  | .l n _ _ _ => nm n
  | .o n _ _ _ => nm n
  | .m n => nm n
  | .f _ x => ih (x ++ r) h
  | .g l => ih (l ++ r) h
  | .t l => ih (l ++ r) h
  | _ => ih r h) f
def resV (P : Program) (rs : List ResultVar) (m : Tr A) (h : Tr B) : Option (List A) := List.rec (some []) (fun r _ ih => bd (match r with
  | .tmp t => m.get (po t)
  | .cell t T => bd (m.get (po t)) fun a => bd a.P fun q => Bx.casesOn (loadV P T) fun f => f h q.1 q.2) fun v => bd ih fun l => some (v :: l)) rs
def one (l : List A) : A := match l with | [v] => v | vs => .t vs
def argT (as : List A) : Nat → Tr A → Tr A := List.rec (fun _ m => m) (fun a _ ih k m => ih (Nat.succ k) (m.put (some a) (po k))) as
def parT (ps : List Tmp) : List A → Tr A → Option (Tr A) := List.rec (fun l m => List.casesOn l (some m) fun _ _ => none) (fun p _ ih l m => List.casesOn l none fun a r => ih r (m.put (some a) (po p))) ps
abbrev Co := Ih → Nat → Tr A → Tr B → Po → Option R

def orT (loc : Nat) (x : Operand) (m : Nat) : Nat := match x with
  | .tmp t => cn (bit loc t) m (Nat.lor m (Nat.shiftLeft 1 t))
  | _ => m
def orO (loc : Nat) (x : Option Nat) (m : Nat) : Nat := match x with
  | some t => orT loc (.tmp t) m
  | none => m
def orL (loc : Nat) (l : List Operand) (m : Nat) : Nat := List.rec m (fun x _ ih => orT loc x ih) l
def outs (l : List Oper) (ops : List Oper) : Nat → Nat → Nat := List.rec (fun _ m => m) (fun o _ ih loc m => ih (match o.dst with | some d => Nat.lor loc (Nat.shiftLeft 1 d) | none => loc) (match gdD ops o with | some g => orO loc g.1 (orL loc o.op.operands.toList m) | none => orL loc o.op.operands.toList m)) l
def orN (l : List Nat) (m : Nat) : Nat := List.rec m (fun t _ ih => Nat.lor ih (Nat.shiftLeft 1 t)) l
def need (c : Code) : Nat → Nat := Code.rec (motive := fun _ => Nat → Nat) (fun m => m) (fun _ ops _ => outs ops.toList ops.toList 0) (fun _ _ a b m => b (a m)) (fun x _ _ a b m => orT 0 x (b (a m))) (fun _ _ a => a) (fun _ a => a) (fun f ps _ _ a b m => orT 0 f (orN ps.toList (b (a m)))) (fun _ m => m) (fun _ a => a) (fun _ m => m) (fun _ m => m) (fun m => m) (fun _ m => m) c
def loopN (a : Tr A → Tr B → Po → Option R) (k : Nat) : Tr A → Tr B → Po → Option R := Nat.rec (fun _ _ _ => none) (fun _ ih m h n => bd (a m h n) fun r => Ex.casesOn r.e (ih r.m r.h r.n) (fun _ => some r) (some r)) k
def hasB (P : Program) (g : FuncId) : Bool := match P.funcs[g]? with
  | some fn => fn.body.isSome
  | none => false
def codD (P : Program) (rf : Bool) (X : Nat → Bool) (c : Code) : Bx Co := Code.rec (motive := fun _ => Bx Co)
  ⟨fun _ _ m h n => some ⟨.nm, u0, m, h, n⟩⟩
  (fun _ ops dr => cn dr (drawD P X ops.toList) (Bx.casesOn (listD P X ops.toList ops.toList []) fun f => ⟨fun ih lv m h n => f ih lv [] m h n⟩))
  (fun _ _ a b => Bx.casesOn a fun a => Bx.casesOn b fun b => ⟨fun ih lv m h n => bd (a ih lv m h n) fun r => Ex.casesOn r.e (b ih lv r.m r.h r.n) (fun _ => some r) (some r)⟩)
  (fun x _ _ a b => Bx.casesOn a fun a => Bx.casesOn b fun b => ⟨fun ih lv m h n => bd (ev ⟨X, []⟩ x [] m) fun v => bd v.B fun t => cn t (a ih lv m h n) (b ih lv m h n)⟩)
  (fun id _ a => Bx.casesOn a fun a => ⟨fun ih lv m h n => bd (a ih lv m h n) fun r => Ex.casesOn r.e (some r) (fun i => bif Nat.beq i id then some ⟨.nm, u0, r.m, r.h, r.n⟩ else some r) (some r)⟩)
  (fun _ a => Bx.casesOn a fun a => ⟨fun ih lv m h n => loopN (a ih lv) lim m h n⟩)
  (fun f ps as body _ _ => ⟨fun ih lv m h n => gu rf <| bd (ev ⟨X, []⟩ f [] m) fun v => match v with
    | .f g c => gu (hasB P g) <| bd (ih (.ca lv g (.y n :: c) (h.put (some ⟨.lp m X ps.toList as body, lv⟩) n) n.s)) fun r => bd (r.h.get n) fun b => gu (Nat.ble lv b.lv) (match b.o with
      | .lp _ _ _ _ _ => some ⟨.nm, u0, m, r.h.put none n, r.n⟩
      | _ => none)
    | _ => none⟩)
  (fun id => ⟨fun _ _ m h n => some ⟨.ex id, u0, m, h, n⟩⟩)
  (fun _ a => Bx.casesOn a fun a => ⟨fun ih lv m h n => gu rf (a ih lv m h n)⟩)
  (fun _ => ⟨fun _ _ m h n => some ⟨.nm, u0, m, h, n⟩⟩)
  (fun _ => ⟨fun _ _ _ _ _ => none⟩)
  ⟨fun _ _ m h n => some ⟨.rt, u0, m, h, n⟩⟩
  (fun _ => ⟨fun _ _ _ _ _ => none⟩) c

def dOk (N : Nat) (d : Option Tmp) : Bool := match d with | some d => Nat.ble (Nat.succ d) N | none => true
def okC (N : Nat) (c : Code) : Bool := Code.rec (motive := fun _ => Bool) true (fun _ ops _ => ops.toList.all fun o => dOk N o.dst) (fun _ _ a b => a && b) (fun _ _ _ a b => a && b) (fun _ _ a => a) (fun _ a => a) (fun _ ps _ _ a b => (ps.toList.all fun p => dOk N (some p)) && (a && b)) (fun _ => true) (fun _ a => a) (fun _ => true) (fun _ => true) true (fun _ => true) c
def rsL (l : List ResultVar) : List Nat := l.map fun r => match r with | .tmp t => t | .cell t _ => t
abbrev Ora := FuncId → Option (Bx (List A → Tr B → Po → Nat → Option R))
def fbD (P : Program) (imp : FuncId → Bool) (f : FuncId) : Bx (Ih → Nat → List A → Tr B → Po → Option R) := match P.funcs[f]? with
  | none => ⟨fun _ _ _ _ _ => none⟩
  | some fn => match fn.body with
    | none => ⟨fun _ _ _ _ _ => none⟩
    | some c => bif imp f then ⟨fun ih lv args h n => Bx.casesOn (codD P true (bit (need c (orN (rsL fn.results.toList) 0))) c) fun k => bd (k ih lv (argT args 0 .lf) h n) fun r => Ex.casesOn r.e (bd (resV P fn.results.toList r.m r.h) fun vs => rz (one vs) r.h r.n) (fun _ => none) (bd (resV P fn.results.toList r.m r.h) fun vs => rz (one vs) r.h r.n)⟩
      else ⟨fun ih lv args h n => Bx.casesOn (codD P true (bit (need c (orN (rsL fn.results.toList) 0))) c) fun k => bd (k ih (Nat.succ lv) (argT args 0 .lf) h n) fun r => Ex.casesOn r.e (bd (resV P fn.results.toList r.m r.h) fun vs => rz (one vs) (keep lv r.h 100000 vs h) r.n) (fun _ => none) (bd (resV P fn.results.toList r.m r.h) fun vs => rz (one vs) (keep lv r.h 100000 vs h) r.n)⟩

def fnD (P : Program) (imp : FuncId → Bool) (ora : Ora) (f : FuncId) : Bx (Ih → Nat → List A → Tr B → Po → Option R) := match ora f with
  | some o => Bx.casesOn o fun o => Bx.casesOn (fbD P imp f) fun k => ⟨fun ih lv args h n => Option.casesOn (o args h n lv) (k ih lv args h n) some⟩
  | none => fbD P imp f
def go (P : Program) (imp : FuncId → Bool) (ora : Ora) (k : Nat) : Ih := Nat.rec (fun _ => none) (fun _ ih t => Tk.casesOn t
  (fun lv f args h n => Bx.casesOn (fnD P imp ora f) fun k => k ih lv args h n)
  (fun lv l args h n => bd (h.get l) fun b => match b.o with
    | .lp m X ps as body => bd (parT ps args m) fun m => Bx.casesOn (codD P false X as) fun f => bd (f ih lv m h n) fun r => Ex.casesOn r.e (bd (r.h.get l) fun b2 => (match b2.o with
      | .lp _ _ _ _ _ => Bx.casesOn (codD P false X body) fun f => bd (f ih lv r.m (r.h.put none l) r.n) fun r2 => Ex.casesOn r2.e (rz (.b true) (r2.h.put (some b2) l) r2.n) (fun _ => none) none
      | _ => none)) (fun _ => none) none
    | _ => none)) k
end
end Go.Ev
namespace Go.Ev
theorem bd_some {α β : Type} {o : Option α} {k : α → Option β} {b : β} (h : bd o k = some b) : ∃ a, o = some a ∧ k a = some b := by
  cases o with
  | none => cases h
  | some a => exact ⟨a, rfl, h⟩
theorem gu_some {β : Type} {c : Bool} {k : Option β} {b : β} (h : gu c k = some b) : c = true ∧ k = some b := by
  cases c with
  | false => cases h
  | true => exact ⟨rfl, h⟩
theorem cn_eq {α : Type} (b : Bool) (x y : α) : cn b x y = if b then x else y := by cases b <;> rfl
theorem Bx.co {α β : Type} (b : Bx α) (k : α → β) : (Bx.casesOn b k : β) = k b.f := by cases b; rfl


theorem Po.n_h : Po.h.n = 1 := rfl
theorem Po.n_o (p : Po) : (Po.o p).n = 2 * p.n := rfl
theorem Po.n_i (p : Po) : (Po.i p).n = 2 * p.n + 1 := rfl
theorem Po.n_pos (p : Po) : 0 < p.n := by
  induction p with
  | h => exact Nat.zero_lt_one
  | o p ih => rw [n_o]; omega
  | i p ih => rw [n_i]; omega
theorem Po.n_s (p : Po) : p.s.n = p.n + 1 := by
  induction p with
  | h => rfl
  | o p ih => rfl
  | i p ih => show (Po.o p.s).n = _; rw [n_o, n_i, ih]; omega
theorem Po.n_inj : ∀ {p q : Po}, p.n = q.n → p = q := by
  intro p
  induction p with
  | h => intro q h; cases q with
    | h => rfl
    | o q => rw [n_h, n_o] at h; omega
    | i q => rw [n_h, n_i] at h; have := n_pos q; omega
  | o p ih => intro q h; cases q with
    | h => rw [n_h, n_o] at h; omega
    | o q => rw [n_o, n_o] at h; rw [ih (q := q) (by omega)]
    | i q => rw [n_o, n_i] at h; omega
  | i p ih => intro q h; cases q with
    | h => rw [n_h, n_i] at h; have := n_pos p; omega
    | o q => rw [n_i, n_o] at h; omega
    | i q => rw [n_i, n_i] at h; rw [ih (q := q) (by omega)]
theorem Po.eq_eq : ∀ {p q : Po}, Po.eq p q = true → p = q := by
  intro p
  induction p with
  | h => intro q h; cases q with
    | h => rfl
    | o q => cases h
    | i q => cases h
  | o p ih => intro q h; cases q with
    | h => cases h
    | o q => rw [ih h]
    | i q => cases h
  | i p ih => intro q h; cases q with
    | h => cases h
    | o q => cases h
    | i q => rw [ih h]

noncomputable def Po.u (p : Po) : Nat := Po.rec 0 (fun _ ih => 2 * ih) (fun _ ih => 2 * ih + 1) p
theorem u_poF : ∀ (f t : Nat), t ≤ f → (poF f t).u = t
  | 0, t, h => by have : t = 0 := by omega
                  subst this; rfl
  | f + 1, t, h => by
    unfold poF
    rw [cn_eq, cn_eq]
    have e1 : Nat.shiftRight t 1 = t / 2 := Nat.shiftRight_eq_div_pow t 1
    have e2 : Nat.land t 1 = t % 2 := by show t &&& 1 = _; exact Nat.and_one_is_mod t
    rw [e1, e2]
    split
    · rename_i h0; have := Nat.eq_of_beq_eq_true h0; subst this; rfl
    · rename_i h0
      have ht : t ≠ 0 := by intro e; subst e; exact h0 rfl
      have ih := u_poF f (t / 2) (by omega)
      split
      · rename_i h1; have := Nat.eq_of_beq_eq_true h1
        show 2 * (poF f (t / 2)).u = t; rw [ih]; omega
      · rename_i h1
        have : t % 2 ≠ 0 := by intro e; rw [e] at h1; exact h1 rfl
        show 2 * (poF f (t / 2)).u + 1 = t; rw [ih]; omega
theorem po_inj {s t : Nat} (h : po s = po t) : s = t := by
  have := congrArg Po.u h
  unfold po at this
  rw [u_poF s s (Nat.le_refl _), u_poF t t (Nat.le_refl _)] at this; exact this


section
variable {α : Type}
theorem Tr.get_lf (p : Po) : Tr.get p (.lf : Tr α) = none := by
  induction p with
  | h => rfl
  | o p ih => exact ih
  | i p ih => exact ih
theorem Tr.get_put_eq (x : Option α) : ∀ (p : Po) (t : Tr α), Tr.get p (Tr.put x p t) = x := by
  intro p
  induction p with
  | h => intro t; rfl
  | o p ih => intro t; exact ih t.l
  | i p ih => intro t; exact ih t.r
theorem Tr.get_put_ne (x : Option α) : ∀ {p q : Po} (t : Tr α), q ≠ p → Tr.get q (Tr.put x p t) = Tr.get q t := by
  intro p
  induction p with
  | h => intro q t h; cases q with
    | h => exact absurd rfl h
    | o q => cases t with
      | lf => exact (Tr.get_lf q).trans (Tr.get_lf (.o q)).symm
      | nd v l r => rfl
    | i q => cases t with
      | lf => exact (Tr.get_lf q).trans (Tr.get_lf (.i q)).symm
      | nd v l r => rfl
  | o p ih => intro q t h; cases q with
    | h => cases t <;> rfl
    | o q => exact ih t.l (fun e => h (by rw [e]))
    | i q => cases t with
      | lf => exact (Tr.get_lf q).trans (Tr.get_lf (.i q)).symm
      | nd v l r => rfl
  | i p ih => intro q t h; cases q with
    | h => cases t <;> rfl
    | i q => exact ih t.r (fun e => h (by rw [e]))
    | o q => cases t with
      | lf => exact (Tr.get_lf q).trans (Tr.get_lf (.o q)).symm
      | nd v l r => rfl
theorem Tr.get_put (x : Option α) {p q : Po} {t : Tr α} {a : α} (h : Tr.get q (Tr.put x p t) = some a) : (q = p ∧ x = some a) ∨ (q ≠ p ∧ Tr.get q t = some a) := by
  by_cases e : q = p
  · subst e; rw [get_put_eq] at h; exact .inl ⟨rfl, h⟩
  · rw [get_put_ne x t e] at h; exact .inr ⟨e, h⟩
end
end Go.Ev
namespace Go.Ev

structure Pl where
  blk : Nat
  boff : Nat
  size : Nat
abbrev Be := Po → Option Pl
def txt (l : List Nat) : ByteArray := ⟨(l.map UInt8.ofNat).toArray⟩
def okS (l : List Nat) : Bool := l.all fun c => Nat.ble c 255
def Pl.at (p : Pl) (off : Nat) : Addr := ⟨p.blk, p.boff + off, none⟩
mutual
def V (β : Be) : A → Option Value
  | .i k n => some (.int k n)
  | .b x => some (.bool x)
  | .s l => if okS l then some (.string (txt l)) else none
  | .k v => some v
  | .p n off => (β n).map fun p => .pointer (some (p.at off))
  | .l n off len cap => (β n).map fun p => .slice (some (p.at off)) len cap
  | .o n off len sz => (β n).bind fun p => if len ≤ (p.size - (p.boff + off)) / sz then some (.slice (some (p.at off)) len ((p.size - (p.boff + off)) / sz)) else none
  | .m n => (β n).map fun p => .map (some p.blk)
  | .f fn l => (Vs β l).map fun l => .func (.func fn) #[] l.toArray
  | .y n => (β n).map fun p => .func (.yield p.blk) #[] #[]
  | .g l => (Vs β l).map fun l => .agg l.toArray
  | .t l => (Vs β l).map fun l => .tuple l.toArray
def Vs (β : Be) : List A → Option (List Value)
  | [] => some []
  | a :: l => match V β a, Vs β l with
    | some v, some r => some (v :: r)
    | _, _ => none
end
def Be.le (β β' : Be) : Prop := ∀ q p, β q = some p → β' q = some p
theorem Be.le_refl (β : Be) : Be.le β β := fun _ _ h => h
theorem Be.le_trans {a b c : Be} (h : Be.le a b) (k : Be.le b c) : Be.le a c := fun q p e => k q p (h q p e)
theorem map_le {β β' : Be} (h : Be.le β β') {n : Po} {f : Pl → Value} {v : Value} (e : (β n).map f = some v) : (β' n).map f = some v := by
  cases hn : β n with
  | none => rw [hn] at e; cases e
  | some p => rw [h n p hn]; rw [hn] at e; exact e
theorem bind_le {β β' : Be} (h : Be.le β β') {n : Po} {f : Pl → Option Value} {v : Value} (e : (β n).bind f = some v) : (β' n).bind f = some v := by
  cases hn : β n with
  | none => rw [hn] at e; cases e
  | some p => rw [h n p hn]; rw [hn] at e; exact e
theorem Vs_cons {β : Be} {a : A} {l : List A} {vs : List Value} (h : Vs β (a :: l) = some vs) : ∃ v r, V β a = some v ∧ Vs β l = some r ∧ vs = v :: r := by
  unfold Vs at h
  cases ha : V β a with
  | none => rw [ha] at h; cases h
  | some v => cases hl : Vs β l with
    | none => rw [ha, hl] at h; cases h
    | some r => rw [ha, hl] at h; exact ⟨v, r, rfl, rfl, (Option.some.inj h).symm⟩
theorem Vs_mk {β : Be} {a : A} {l : List A} {v : Value} {r : List Value} (h : V β a = some v) (k : Vs β l = some r) : Vs β (a :: l) = some (v :: r) := by
  unfold Vs; rw [h, k]
mutual
theorem V_le {β β' : Be} (h : Be.le β β') : ∀ (a : A) (v : Value), V β a = some v → V β' a = some v
  | .i _ _, _, e => e
  | .b _, _, e => e
  | .s _, _, e => e
  | .k _, _, e => e
  | .p _ _, _, e => map_le h e
  | .l _ _ _ _, _, e => map_le h e
  | .o _ _ _ _, _, e => bind_le h e
  | .m _, _, e => map_le h e
  | .y _, _, e => map_le h e
  | .f _ l, _, e => by
    unfold V at e ⊢
    obtain ⟨r, h1, h2⟩ := Option.map_eq_some_iff.1 e
    rw [Vs_le h l r h1]; exact congrArg some h2
  | .g l, _, e => by
    unfold V at e ⊢
    obtain ⟨r, h1, h2⟩ := Option.map_eq_some_iff.1 e
    rw [Vs_le h l r h1]; exact congrArg some h2
  | .t l, _, e => by
    unfold V at e ⊢
    obtain ⟨r, h1, h2⟩ := Option.map_eq_some_iff.1 e
    rw [Vs_le h l r h1]; exact congrArg some h2
theorem Vs_le {β β' : Be} (h : Be.le β β') : ∀ (l : List A) (vs : List Value), Vs β l = some vs → Vs β' l = some vs
  | [], _, e => e
  | a :: l, vs, e => by
    obtain ⟨v, r, h1, h2, rfl⟩ := Vs_cons e
    exact Vs_mk (V_le h a v h1) (Vs_le h l r h2)
end
theorem Vs_len {β : Be} : ∀ {l : List A} {vs : List Value}, Vs β l = some vs → vs.length = l.length
  | [], vs, h => by cases h; rfl
  | a :: l, vs, h => by obtain ⟨v, r, _, h2, rfl⟩ := Vs_cons h; simp [Vs_len h2]
theorem Vs_app {β : Be} : ∀ {l l' : List A} {vs vs' : List Value}, Vs β l = some vs → Vs β l' = some vs' → Vs β (l ++ l') = some (vs ++ vs')
  | [], _, vs, _, h, k => by cases h; exact k
  | a :: l, _, vs, _, h, k => by obtain ⟨v, r, h1, h2, rfl⟩ := Vs_cons h; exact Vs_mk h1 (Vs_app h2 k)
theorem Vs_at {β : Be} : ∀ {l : List A} {vs : List Value} {i : Nat} {v : Value}, Vs β l = some vs → vs[i]? = some v → ∃ a, l[i]? = some a ∧ V β a = some v
  | [], vs, i, v, h, k => by cases h; cases k
  | a :: l, vs, i, v, h, k => by
    obtain ⟨u, r, h1, h2, rfl⟩ := Vs_cons h
    cases i with
    | zero => exact ⟨a, rfl, by rw [h1]; simpa using k⟩
    | succ i => have := Vs_at (l := l) (i := i) h2 (by simpa using k); simpa using this
theorem Vs_get {β : Be} : ∀ {l : List A} {vs : List Value} {i : Nat} {a : A}, Vs β l = some vs → l[i]? = some a → ∃ v, vs[i]? = some v ∧ V β a = some v
  | [], vs, i, v, h, k => by cases k
  | a :: l, vs, i, b, h, k => by
    obtain ⟨u, r, h1, h2, rfl⟩ := Vs_cons h
    cases i with
    | zero => exact ⟨u, rfl, by rw [← h1]; simpa using congrArg (V β) (Option.some.inj k).symm⟩
    | succ i => have := Vs_get (l := l) (i := i) h2 (by simpa using k); simpa using this
theorem Vs_drop {β : Be} : ∀ (n : Nat) {l : List A} {vs : List Value}, Vs β l = some vs → Vs β (l.drop n) = some (vs.drop n)
  | 0, _, _, h => h
  | n + 1, [], vs, h => by cases h; rfl
  | n + 1, a :: l, vs, h => by obtain ⟨u, r, h1, h2, rfl⟩ := Vs_cons h; exact Vs_drop n h2
theorem Vs_take {β : Be} : ∀ (n : Nat) {l : List A} {vs : List Value}, Vs β l = some vs → Vs β (l.take n) = some (vs.take n)
  | 0, l, vs, h => by simp [Vs]
  | n + 1, [], vs, h => by cases h; rfl
  | n + 1, a :: l, vs, h => by obtain ⟨u, r, h1, h2, rfl⟩ := Vs_cons h; exact Vs_mk h1 (Vs_take n h2)



def Sl (X : Nat → Bool) (β : Be) (m : Tr A) (ts : Array Value) : Prop := ∀ t a, X t = true → m.get (po t) = some a → ∃ v, V β a = some v ∧ ts[t]? = some v
theorem Sl.le {X : Nat → Bool} {β β' : Be} {m : Tr A} {ts : Array Value} (h : Sl X β m ts) (k : Be.le β β') : Sl X β' m ts := fun t a hX ha => by
  obtain ⟨v, h1, h2⟩ := h t a hX ha; exact ⟨v, V_le k a v h1, h2⟩
def En (β : Be) : List (A × A × Nat) → List MapEntry → Prop
  | [], [] => True
  | (k, v, b) :: r, e :: es => V β k = some e.key ∧ V β v = some e.val ∧ e.born = b ∧ En β r es
  | _, _ => False
theorem En.le {β β' : Be} (h : Be.le β β') : ∀ {l : List (A × A × Nat)} {es : List MapEntry}, En β l es → En β' l es
  | [], [], _ => trivial
  | (_, _, _) :: _, _ :: _, ⟨h1, h2, h3, h4⟩ => ⟨V_le h _ _ h1, V_le h _ _ h2, h3, En.le h h4⟩
def Oo (β : Be) (p : Pl) (o : Obj) : O → Prop
  | .c l T op => ∃ c vs, o = .cells c T (0, 0) ∧ c.size = p.size ∧ Vs β l = some vs ∧ (∀ i v, vs[i]? = some v → c[p.boff + i]? = some v) ∧ p.boff + l.length ≤ p.size ∧ (op = false → p.boff = 0 ∧ l.length = p.size) ∧ p.boff = 0
  | .r l _ => ∃ c T fr vs, o = .cells c T fr ∧ c.size = p.size ∧ Vs β l = some vs ∧ (∀ i v, vs[i]? = some v → c[p.boff + i]? = some v) ∧ p.boff + l.length ≤ p.size
  | .m es ck => ∃ ents, o = .map ents ck ∧ En β es ents.toList
  | .si l pos => okS l = true ∧ o = .stringIter (txt l) pos ∧ p.boff = 0
  | .mi q since seen last => p.boff = 0 ∧ ∃ pq, β q = some pq ∧ o = .mapIter (some pq.blk) since seen.reverse.toArray last
  | .lp m X ps as body => ∃ r : Loop, o = .loop r ∧ r.state = .ready ∧ r.pending = none ∧ r.params = ps.toArray ∧ r.assign = as ∧ r.body = body ∧ Sl X β m r.tmps ∧ okC r.tmps.size (.rangeFunc (.const (.bool true)) r.params as body) = true
theorem Oo.le {β β' : Be} (h : Be.le β β') {p : Pl} {o : Obj} : ∀ {x : O}, Oo β p o x → Oo β' p o x
  | .c _ _ _, ⟨c, vs, h1, h2, h3, h4⟩ => ⟨c, vs, h1, h2, Vs_le h _ _ h3, h4⟩
  | .r _ _, ⟨c, T, fr, vs, h1, h2, h3, h4⟩ => ⟨c, T, fr, vs, h1, h2, Vs_le h _ _ h3, h4⟩
  | .m _ _, ⟨e, h1, h2⟩ => ⟨e, h1, h2.le h⟩
  | .si _ _, k => k
  | .mi _ _ _ _, ⟨h0, pq, h1, h2⟩ => ⟨h0, pq, h _ _ h1, h2⟩
  | .lp _ _ _ _ _, ⟨r, h1, h2, h3, h4, h5, h6, h7, h8⟩ => ⟨r, h1, h2, h3, h4, h5, h6, h7.le h, h8⟩

def Ob (β : Be) (h : Tr B) (w : World) : Prop := ∀ q b, h.get q = some b → ∃ p o, β q = some p ∧ w.heap[p.blk]? = some o ∧ Oo β p o b.o
structure Ok (β : Be) (h : Tr B) (n : Po) (w : World) : Prop where
  ob : ∀ q b, h.get q = some b → ∃ p o, β q = some p ∧ w.heap[p.blk]? = some o ∧ Oo β p o b.o
  inj : ∀ q q' b b' p p', h.get q = some b → h.get q' = some b' → β q = some p → β q' = some p' → p.blk = p'.blk → q = q'
  top : ∀ q : Po, n.n ≤ q.n → β q = none
theorem Ok.lt {β : Be} {h : Tr B} {n : Po} {w : World} (k : Ok β h n w) {q : Po} {b : B} (hq : h.get q = some b) {p : Pl} (hp : β q = some p) : p.blk < w.heap.size := by
  obtain ⟨p', o, h1, h2, _⟩ := k.ob q b hq
  rw [hp] at h1; cases h1
  exact (Array.getElem?_eq_some_iff.1 h2).1
theorem Ok.nm {β : Be} {h : Tr B} {n : Po} {w : World} (k : Ok β h n w) {q : Po} {b : B} (hq : h.get q = some b) : q.n < n.n := by
  obtain ⟨p, o, h1, _⟩ := k.ob q b hq
  rcases Nat.lt_or_ge q.n n.n with g | g
  · exact g
  · rw [k.top q g] at h1; cases h1


structure Mv (lv : Nat) (β : Be) (h : Tr B) (n : Po) (w : World) (β' : Be) (h' : Tr B) (n' : Po) (w' : World) : Prop where
  le : n.n ≤ n'.n
  old : ∀ q : Po, q.n < n.n → β' q = β q
  ok : Ok β' h' n' w'
  os : w'.os = w.os
  tape : w'.tape = w.tape
  out : w'.output = w.output
  drawn : w.drawn ≤ w'.drawn
  size : w.heap.size ≤ w'.heap.size
  fr : ∀ b, b < w.heap.size → (∀ q c p, h.get q = some c → lv ≤ c.lv → β q = some p → p.blk ≠ b) → w'.heap[b]? = w.heap[b]?
  src : ∀ q c p, h'.get q = some c → β' q = some p → p.blk < w.heap.size → ∃ q0 c0 p0, h.get q0 = some c0 ∧ β q0 = some p0 ∧ p0.blk = p.blk ∧ (lv ≤ c.lv → lv ≤ c0.lv)
  lvb : ∀ K, lv ≤ K → (∀ q c, h.get q = some c → c.lv ≤ K) → ∀ q c, h'.get q = some c → c.lv ≤ K
theorem Mv.be {lv : Nat} {β β' : Be} {h h' : Tr B} {n n' : Po} {w w' : World} (k : Mv lv β h n w β' h' n' w') (hk : Ok β h n w) : Be.le β β' := fun q p e => by
  rcases Nat.lt_or_ge q.n n.n with g | g
  · rw [k.old q g]; exact e
  · rw [hk.top q g] at e; cases e
theorem Mv.refl {lv : Nat} {β : Be} {h : Tr B} {n : Po} {w : World} (k : Ok β h n w) : Mv lv β h n w β h n w :=
  ⟨Nat.le_refl _, fun _ _ => rfl, k, rfl, rfl, rfl, Nat.le_refl _, Nat.le_refl _, fun _ _ _ => rfl, fun q c p h1 h2 _ => ⟨q, c, p, h1, h2, rfl, id⟩, fun _ _ h => h⟩
theorem Mv.trans {lv : Nat} {β1 β2 β3 : Be} {h1 h2 h3 : Tr B} {n1 n2 n3 : Po} {w1 w2 w3 : World} (a : Mv lv β1 h1 n1 w1 β2 h2 n2 w2) (b : Mv lv β2 h2 n2 w2 β3 h3 n3 w3) : Mv lv β1 h1 n1 w1 β3 h3 n3 w3 where
  le := Nat.le_trans a.le b.le
  old := fun q hq => (b.old q (Nat.lt_of_lt_of_le hq a.le)).trans (a.old q hq)
  ok := b.ok
  os := b.os.trans a.os
  tape := b.tape.trans a.tape
  out := b.out.trans a.out
  drawn := Nat.le_trans a.drawn b.drawn
  size := Nat.le_trans a.size b.size
  fr := fun x hx hh => by
    rw [b.fr x (Nat.lt_of_lt_of_le hx a.size) ?_, a.fr x hx hh]
    intro q c p hq hc hp e
    obtain ⟨q0, c0, p0, g1, g2, g3, g4⟩ := a.src q c p hq hp (by omega)
    exact hh q0 c0 p0 g1 (g4 hc) g2 (by omega)
  src := fun q c p hq hp hb => by
    obtain ⟨q1, c1, p1, g1, g2, g3, g4⟩ := b.src q c p hq hp (Nat.lt_of_lt_of_le hb a.size)
    obtain ⟨q0, c0, p0, k1, k2, k3, k4⟩ := a.src q1 c1 p1 g1 g2 (by omega)
    exact ⟨q0, c0, p0, k1, k2, by omega, fun h => k4 (g4 h)⟩
  lvb := fun K hK h => b.lvb K hK (a.lvb K hK h)
end Go.Ev
namespace Go.Ev
open Go.RowKit
theorem toNat_ofNat (c : UInt8) : UInt8.ofNat c.toNat = c := by simp
theorem V_ofV1 (β : Be) (v : Value) : V β (ofV1 v) = some v := by
  unfold ofV1
  split
  · rfl
  · rfl
  · rename_i s
    have h1 : okS (s.data.toList.map UInt8.toNat) = true := by
      unfold okS
      rw [List.all_eq_true]
      intro c hc
      obtain ⟨b, _, rfl⟩ := List.mem_map.1 hc
      have := b.toNat_lt
      exact Nat.ble_eq_true_of_le (by omega)
    unfold V
    rw [if_pos h1]
    unfold txt
    rw [List.map_map]
    have : (UInt8.ofNat ∘ UInt8.toNat) = id := by funext c; exact toNat_ofNat c
    rw [this, List.map_id]
  · rfl
theorem Vs_ofV1 (β : Be) : ∀ l : List Value, Vs β (l.map ofV1) = some l
  | [] => rfl
  | v :: l => Vs_mk (V_ofV1 β v) (Vs_ofV1 β l)
theorem V_ofV (β : Be) (v : Value) : V β (ofV v) = some v := by
  unfold ofV
  split
  · unfold V; rw [Vs_ofV1]; rfl
  · unfold V; rw [Vs_ofV1]; rfl
  · exact V_ofV1 β v


theorem A.P_eq {a : A} {q : Po × Nat} (h : a.P = some q) : a = .p q.1 q.2 := by
  cases a <;> simp [A.P] at h
  rw [← h]
theorem A.N_eq {a : A} {n : Nat} (h : a.N = some n) : ∃ k, a = .i k (.ofNat n) := by
  cases a <;> simp [A.N] at h
  rename_i k m
  cases m with
  | ofNat m => simp at h; subst h; exact ⟨k, rfl⟩
  | negSucc m => simp at h
theorem A.I_eq {a : A} {q : IntKind × Int} (h : a.I = some q) : a = .i q.1 q.2 := by
  cases a <;> simp [A.I] at h
  rw [← h]
theorem A.B_eq {a : A} {t : Bool} (h : a.B = some t) : a = .b t := by
  cases a <;> simp [A.B] at h
  rw [h]
theorem A.S_eq {a : A} {l : List Nat} (h : a.S = some l) : a = .s l := by
  cases a <;> simp [A.S] at h
  rw [h]
theorem A.G_eq {a : A} {l : List A} (h : a.G = some l) : a = .g l := by
  cases a <;> simp [A.G] at h
  rw [h]
theorem A.T_eq {a : A} {l : List A} (h : a.T = some l) : a = .t l := by
  cases a <;> simp [A.T] at h
  rw [h]
theorem A.M_eq {a : A} {n : Po} (h : a.M = some n) : a = .m n := by
  cases a <;> simp [A.M] at h
  rw [h]
theorem O.C_eq {o : O} {c : List A × TypeId × Bool} (h : o.C = some c) : o = .c c.1 c.2.1 c.2.2 := by
  cases o <;> simp [O.C] at h
  rw [← h]
theorem O.D_eq {o : O} {l : List A} (h : o.D = some l) : (∃ T op, o = .c l T op) ∨ ∃ T, o = .r l T := by
  cases o <;> simp [O.D] at h
  · subst h; exact .inl ⟨_, _, rfl⟩
  · subst h; exact .inr ⟨_, rfl⟩
theorem V_p {β : Be} {n : Po} {off : Nat} {v : Value} (h : V β (.p n off) = some v) : ∃ p, β n = some p ∧ v = .pointer (some (p.at off)) := by
  unfold V at h
  obtain ⟨p, h1, h2⟩ := Option.map_eq_some_iff.1 h
  exact ⟨p, h1, h2.symm⟩
theorem V_l {β : Be} {n : Po} {off len cap : Nat} {v : Value} (h : V β (.l n off len cap) = some v) : ∃ p, β n = some p ∧ v = .slice (some (p.at off)) len cap := by
  unfold V at h
  obtain ⟨p, h1, h2⟩ := Option.map_eq_some_iff.1 h
  exact ⟨p, h1, h2.symm⟩
theorem V_o {β : Be} {n : Po} {off len sz : Nat} {v : Value} (h : V β (.o n off len sz) = some v) : ∃ p, β n = some p ∧ len ≤ (p.size - (p.boff + off)) / sz ∧ v = .slice (some (p.at off)) len ((p.size - (p.boff + off)) / sz) := by
  unfold V at h
  obtain ⟨p, h1, h2⟩ := Option.bind_eq_some_iff.1 h
  split at h2
  · rename_i h3; exact ⟨p, h1, h3, (Option.some.inj h2).symm⟩
  · cases h2
theorem V_omk {β : Be} {n : Po} {off len sz : Nat} {p : Pl} (h : β n = some p) (k : len ≤ (p.size - (p.boff + off)) / sz) : V β (.o n off len sz) = some (.slice (some (p.at off)) len ((p.size - (p.boff + off)) / sz)) := by
  unfold V; rw [h]; exact if_pos k
theorem V_m {β : Be} {n : Po} {v : Value} (h : V β (.m n) = some v) : ∃ p, β n = some p ∧ v = .map (some p.blk) := by
  unfold V at h
  obtain ⟨p, h1, h2⟩ := Option.map_eq_some_iff.1 h
  exact ⟨p, h1, h2.symm⟩
theorem V_y {β : Be} {n : Po} {v : Value} (h : V β (.y n) = some v) : ∃ p, β n = some p ∧ v = .func (.yield p.blk) #[] #[] := by
  unfold V at h
  obtain ⟨p, h1, h2⟩ := Option.map_eq_some_iff.1 h
  exact ⟨p, h1, h2.symm⟩
theorem V_g {β : Be} {l : List A} {v : Value} (h : V β (.g l) = some v) : ∃ vs, Vs β l = some vs ∧ v = .agg vs.toArray := by
  unfold V at h
  obtain ⟨p, h1, h2⟩ := Option.map_eq_some_iff.1 h
  exact ⟨p, h1, h2.symm⟩
theorem V_t {β : Be} {l : List A} {v : Value} (h : V β (.t l) = some v) : ∃ vs, Vs β l = some vs ∧ v = .tuple vs.toArray := by
  unfold V at h
  obtain ⟨p, h1, h2⟩ := Option.map_eq_some_iff.1 h
  exact ⟨p, h1, h2.symm⟩
theorem V_f {β : Be} {f : FuncId} {l : List A} {v : Value} (h : V β (.f f l) = some v) : ∃ vs, Vs β l = some vs ∧ v = .func (.func f) #[] vs.toArray := by
  unfold V at h
  obtain ⟨p, h1, h2⟩ := Option.map_eq_some_iff.1 h
  exact ⟨p, h1, h2.symm⟩
theorem V_s {β : Be} {l : List Nat} {v : Value} (h : V β (.s l) = some v) : okS l = true ∧ v = .string (txt l) := by
  unfold V at h
  split at h
  · rename_i k; exact ⟨k, (Option.some.inj h).symm⟩
  · cases h
theorem V_i {β : Be} {k : IntKind} {n : Int} {v : Value} (h : V β (.i k n) = some v) : v = .int k n := (Option.some.inj h).symm
theorem V_b {β : Be} {t : Bool} {v : Value} (h : V β (.b t) = some v) : v = .bool t := (Option.some.inj h).symm
theorem V_k {β : Be} {u v : Value} (h : V β (.k u) = some v) : v = u := (Option.some.inj h).symm
theorem okS_app {a b : List Nat} (h : okS a = true) (k : okS b = true) : okS (a ++ b) = true := by
  unfold okS at *; rw [List.all_append, h, k]; rfl
theorem okS_take {a : List Nat} (n : Nat) (h : okS a = true) : okS (a.take n) = true := by
  unfold okS at *; rw [List.all_eq_true] at *; exact fun x hx => h x (List.mem_of_mem_take hx)
theorem okS_drop {a : List Nat} (n : Nat) (h : okS a = true) : okS (a.drop n) = true := by
  unfold okS at *; rw [List.all_eq_true] at *; exact fun x hx => h x (List.mem_of_mem_drop hx)
theorem V_smk {β : Be} {l : List Nat} (h : okS l = true) : V β (.s l) = some (.string (txt l)) := by unfold V; rw [if_pos h]
theorem get1_eq : ∀ (k : Nat) (l : List A), get1 k l = l[k]?
  | 0, [] => rfl
  | 0, a :: l => rfl
  | k + 1, [] => rfl
  | k + 1, a :: l => by rw [List.getElem?_cons_succ]; exact get1_eq k l
theorem getAt_eq {n : Nat} : ∀ {k : Nat} {l r : List A}, getAt n k l = some r → k + n ≤ l.length ∧ r = (l.drop k).take n
  | 0, l, r, h => by
    have : getAt n 0 l = (bif Nat.ble n l.length then some (l.take n) else none) := rfl
    rw [this] at h
    cases hb : Nat.ble n l.length with
    | false => rw [hb] at h; cases h
    | true =>
      rw [hb] at h
      exact ⟨by have := Nat.le_of_ble_eq_true hb; omega, (Option.some.inj h).symm⟩
  | k + 1, [], r, h => by cases h
  | k + 1, a :: l, r, h => by
    have := getAt_eq (k := k) (l := l) h
    exact ⟨by simp only [List.length_cons]; omega, this.2⟩
theorem putAt_eq {vs : List A} : ∀ {k : Nat} {l r : List A}, putAt vs k l = some r → k + vs.length ≤ l.length ∧ r = l.take k ++ vs ++ l.drop (k + vs.length)
  | 0, l, r, h => by
    have : putAt vs 0 l = (bif Nat.ble vs.length l.length then some (vs ++ l.drop vs.length) else none) := rfl
    rw [this] at h
    cases hb : Nat.ble vs.length l.length with
    | false => rw [hb] at h; cases h
    | true =>
      rw [hb] at h
      exact ⟨by have := Nat.le_of_ble_eq_true hb; omega, by rw [← Option.some.inj h]; simp⟩
  | k + 1, [], r, h => by cases h
  | k + 1, a :: l, r, h => by
    have h' : bd (putAt vs k l) (fun q => some (a :: q)) = some r := h
    obtain ⟨q, h1, h2⟩ := bd_some h'
    have := putAt_eq (k := k) (l := l) h1
    refine ⟨by simp only [List.length_cons]; omega, ?_⟩
    rw [← Option.some.inj h2, this.2, Nat.add_right_comm]
    rfl


theorem wr64_eq (n : Int) : wr64 n = IntKind.i64.wrap n := by
  cases n with
  | ofNat m =>
    show (bif Nat.ble m 9223372036854775807 then Int.ofNat m else IntKind.i64.wrap (Int.ofNat m)) = _
    cases hb : Nat.ble m 9223372036854775807 with
    | false => rw [cond_false]
    | true =>
      have := Nat.le_of_ble_eq_true hb
      show Int.ofNat m = _
      have e : (Int.ofNat m) = (m : Int) := rfl
      rw [e, IntWalk.i64_in _ ⟨by omega, by omega⟩]
  | negSucc m =>
    show (bif Nat.ble m 9223372036854775807 then Int.negSucc m else IntKind.i64.wrap (Int.negSucc m)) = _
    cases hb : Nat.ble m 9223372036854775807 with
    | false => rw [cond_false]
    | true =>
      have := Nat.le_of_ble_eq_true hb
      show Int.negSucc m = _
      have e : (Int.negSucc m) = -((m : Int) + 1) := rfl
      rw [e, IntWalk.i64_in _ ⟨by omega, by omega⟩]
theorem wru_eq (n : Int) : wru n = IntKind.u64.wrap n := by
  cases n with
  | ofNat m => rfl
  | negSucc m => rfl
theorem wr_eq (k : IntKind) (n : Int) : wr k n = k.wrap n := by
  cases k <;> first | exact wr64_eq n | exact wru_eq n | rfl
theorem lsI_eq (a b : Int) : lsI a b = decide (a < b) := by
  cases a with
  | ofNat a => cases b with
    | ofNat b =>
      show Nat.ble (Nat.succ a) b = _
      cases h : Nat.ble (Nat.succ a) b with
      | true => have := Nat.le_of_ble_eq_true h; symm; rw [decide_eq_true_eq]; show (a : Int) < (b : Int); omega
      | false => symm; rw [decide_eq_false_iff_not]; intro h2; have h3 : (a : Int) < (b : Int) := h2; have : Nat.ble (Nat.succ a) b = true := Nat.ble_eq_true_of_le (by omega); rw [h] at this; cases this
    | negSucc b => symm; show decide ((a : Int) < -((b : Int) + 1)) = false; rw [decide_eq_false_iff_not]; omega
  | negSucc a => cases b with
    | ofNat b => symm; show decide (-((a : Int) + 1) < (b : Int)) = true; rw [decide_eq_true_eq]; omega
    | negSucc b =>
      show Nat.ble (Nat.succ b) a = _
      cases h : Nat.ble (Nat.succ b) a with
      | true => have := Nat.le_of_ble_eq_true h; symm; rw [decide_eq_true_eq]; show -((a : Int) + 1) < -((b : Int) + 1); omega
      | false => symm; rw [decide_eq_false_iff_not]; intro h2; have h3 : -((a : Int) + 1) < -((b : Int) + 1) := h2; have : Nat.ble (Nat.succ b) a = true := Nat.ble_eq_true_of_le (by omega); rw [h] at this; cases this
theorem eqI_eq (a b : Int) : eqI a b = (a == b) := by
  cases a with
  | ofNat a => cases b with
    | ofNat b =>
      show Nat.beq a b = _
      cases h : Nat.beq a b with
      | true => have := Nat.eq_of_beq_eq_true h; subst this; simp
      | false => symm; rw [beq_eq_false_iff_ne]; intro e; injection e with e; subst e; rw [Nat.beq_refl] at h; cases h
    | negSucc b => rfl
  | negSucc a => cases b with
    | ofNat b => rfl
    | negSucc b =>
      show Nat.beq a b = _
      cases h : Nat.beq a b with
      | true => have := Nat.eq_of_beq_eq_true h; subst this; simp
      | false => symm; rw [beq_eq_false_iff_ne]; intro e; injection e with e; subst e; rw [Nat.beq_refl] at h; cases h
theorem adI_eq (a b : Int) : adI a b = a + b := by cases a <;> cases b <;> rfl
theorem muI_eq (a b : Int) : muI a b = a * b := by cases a <;> cases b <;> rfl
theorem eqL_eq : ∀ {a b : List Nat}, eqL a b = true → a = b
  | [], [], _ => rfl
  | [], _ :: _, h => by cases h
  | _ :: _, [], h => by cases h
  | a :: l, b :: r, h => by
    have h' : cn (Nat.beq a b) (eqL l r) false = true := h
    rw [cn_eq] at h'
    split at h'
    · rename_i e; rw [Nat.eq_of_beq_eq_true e, eqL_eq h']
    · cases h'
theorem eqL_ne : ∀ {a b : List Nat}, eqL a b = false → a ≠ b
  | [], [], h, _ => by cases h
  | [], _ :: _, _, e => by cases e
  | _ :: _, [], _, e => by cases e
  | a :: l, b :: r, h, e => by
    have h' : cn (Nat.beq a b) (eqL l r) false = false := h
    rw [cn_eq] at h'
    injection e with e1 e2
    subst e1
    rw [if_pos (Nat.beq_refl a)] at h'
    exact eqL_ne h' e2
theorem txt_inj {a b : List Nat} (ha : okS a = true) (hb : okS b = true) (h : txt a = txt b) : a = b := by
  unfold txt at h
  injection h with h
  have h2 : a.map UInt8.ofNat = b.map UInt8.ofNat := by injection h
  have key : ∀ {a b : List Nat}, okS a = true → okS b = true → a.map UInt8.ofNat = b.map UInt8.ofNat → a = b := by
    intro a
    induction a with
    | nil => intro b _ _ h; cases b with
      | nil => rfl
      | cons _ _ => cases h
    | cons x a ih => intro b ha hb h; cases b with
      | nil => cases h
      | cons y b =>
        rw [List.map_cons, List.map_cons] at h
        injection h with h1 h2
        unfold okS at ha hb
        rw [List.all_cons, Bool.and_eq_true] at ha hb
        have hx := Nat.le_of_ble_eq_true ha.1
        have hy := Nat.le_of_ble_eq_true hb.1
        have h3 := congrArg UInt8.toNat h1
        rw [UInt8.toNat_ofNat', UInt8.toNat_ofNat'] at h3
        rw [Nat.mod_eq_of_lt (by omega), Nat.mod_eq_of_lt (by omega)] at h3
        rw [h3, ih ha.2 hb.2 h2]
  exact key ha hb h2
theorem txt_size (l : List Nat) : (txt l).size = l.length := by unfold txt; simp [ByteArray.size]
theorem txt_app (a b : List Nat) : txt a ++ txt b = txt (a ++ b) := by
  unfold txt
  apply ByteArray.ext
  simp
theorem txt_toList (l : List Nat) : (txt l).toList = l.map UInt8.ofNat := by rw [ByteArray.toList_eq]; rfl
end Go.Ev
namespace Go.Ev
open Go.RowKit
theorem sameK_eq {a b : IntKind} (h : sameK a b = true) : a = b := by cases a <;> cases b <;> first | rfl | cases h
theorem V_ev {β : Be} {k : IntKind} {n : Int} : V β (.i k n) = some (.int k n) := rfl

section
variable {P : Program} {β : Be}
theorem run_bin_int {op : BinOp} {T : TypeId} {k k' : IntKind} {a b : Int} {x y : Operand} {r : A} (hk : (isSh op || sameK k k') = true) (h : (binI op).f k a b = some r) :
    ∃ v, V β r = some v ∧ ∀ w, (do eqGuard op T x y (.int k a) (.int k' b); binOp op T (.int k a) (.int k' b) : Sem Value).run P w = .ok v w := by
  have gd : ∀ w, (eqGuard op T x y (.int k a) (.int k' b)).run P w = .ok () w := fun w => by cases op <;> rfl
  cases op with
  | shl =>
    cases b with
    | ofNat b =>
      cases Option.some.inj h
      refine ⟨_, rfl, fun w => ?_⟩
      rw [Sem.run_bind, gd, Result.andThen_ok, wr_eq, muI_eq]
      have e : (Int.ofNat b).toNat = b := rfl
      have e2 : ¬ (Int.ofNat b < 0) := by show ¬ ((b : Int) < 0); omega
      simp only [binOp, Op.shift, if_neg e2, e, Sem.run_pure]
      congr 2
    | negSucc b => cases h
  | shr =>
    cases b with
    | ofNat b =>
      cases Option.some.inj h
      refine ⟨_, rfl, fun w => ?_⟩
      rw [Sem.run_bind, gd, Result.andThen_ok]
      have e : (Int.ofNat b).toNat = b := rfl
      have e2 : ¬ (Int.ofNat b < 0) := by show ¬ ((b : Int) < 0); omega
      simp only [binOp, Op.shift, if_neg e2, e, Sem.run_pure]
      congr 2
      cases a with
      | ofNat a =>
        show Int.fdiv (a : Int) (2 ^ (min b k.bits)) = Int.ofNat (a / 2 ^ (min b k.bits))
        rw [Int.fdiv_eq_ediv_of_nonneg _ (Int.le_of_lt (Int.pow_pos (by decide)))]
        rw [show (2 : Int) ^ (min b k.bits) = ((2 ^ (min b k.bits) : Nat) : Int) by rw [Int.natCast_pow]; rfl]
        rfl
      | negSucc a => rfl
    | negSucc b => cases h
  | add =>
    have := sameK_eq hk; subst this
    cases Option.some.inj h
    exact ⟨_, rfl, fun w => by rw [Sem.run_bind, gd, Result.andThen_ok, wr_eq, adI_eq]; simp [binOp, Op.intArith]⟩
  | sub =>
    have := sameK_eq hk; subst this
    cases Option.some.inj h
    exact ⟨_, rfl, fun w => by rw [Sem.run_bind, gd, Result.andThen_ok, wr_eq]; simp [binOp, Op.intArith]; rfl⟩
  | mul =>
    have := sameK_eq hk; subst this
    cases Option.some.inj h
    exact ⟨_, rfl, fun w => by rw [Sem.run_bind, gd, Result.andThen_ok, wr_eq, muI_eq]; simp [binOp, Op.intArith]⟩
  | quo =>
    have := sameK_eq hk; subst this
    have h' : (bif eqI b 0 then none else some (A.i k (wr k (Int.tdiv a b)))) = some r := h
    cases hb : eqI b 0 with
    | true => rw [hb] at h'; cases h'
    | false =>
      rw [hb] at h'
      cases Option.some.inj h'
      have hne : b ≠ 0 := by rw [eqI_eq] at hb; simpa using hb
      exact ⟨_, rfl, fun w => by rw [Sem.run_bind, gd, Result.andThen_ok, wr_eq]; simp [binOp, Op.intDiv, hne]⟩
  | rem =>
    have := sameK_eq hk; subst this
    have h' : (bif eqI b 0 then none else some (A.i k (Int.tmod a b))) = some r := h
    cases hb : eqI b 0 with
    | true => rw [hb] at h'; cases h'
    | false =>
      rw [hb] at h'
      cases Option.some.inj h'
      have hne : b ≠ 0 := by rw [eqI_eq] at hb; simpa using hb
      exact ⟨_, rfl, fun w => by rw [Sem.run_bind, gd, Result.andThen_ok]; simp [binOp, Op.intDiv, hne]⟩
  | and =>
    have := sameK_eq hk; subst this
    cases Option.some.inj h
    refine ⟨_, rfl, fun w => ?_⟩
    rw [Sem.run_bind, gd, Result.andThen_ok]
    have e : andN k a b = k.wrap (BitVec.ofInt k.bits a &&& BitVec.ofInt k.bits b).toNat := by
      unfold andN
      split
      · rename_i x y
        show Int.ofNat ((x &&& y) % 18446744073709551616) = _
        have e1 : BitVec.ofInt (IntKind.u64).bits (Int.ofNat x) = BitVec.ofNat 64 x := BitVec.ofInt_natCast 64 x
        have e2 : BitVec.ofInt (IntKind.u64).bits (Int.ofNat y) = BitVec.ofNat 64 y := BitVec.ofInt_natCast 64 y
        rw [e1, e2]
        show _ = IntKind.u64.wrap ((BitVec.ofNat 64 x &&& BitVec.ofNat 64 y).toNat : Int)
        rw [BitVec.toNat_and, BitVec.toNat_ofNat, BitVec.toNat_ofNat, ← Nat.and_mod_two_pow]
        generalize x &&& y = q
        exact congrArg Int.ofNat (Nat.mod_mod q 18446744073709551616).symm
      · rfl
    rw [e]
    simp [binOp, Op.intBits]
  | or =>
    have := sameK_eq hk; subst this
    cases Option.some.inj h
    exact ⟨_, rfl, fun w => by rw [Sem.run_bind, gd, Result.andThen_ok]; simp [binOp, Op.intBits]⟩
  | xor =>
    have := sameK_eq hk; subst this
    cases Option.some.inj h
    exact ⟨_, rfl, fun w => by rw [Sem.run_bind, gd, Result.andThen_ok]; simp [binOp, Op.intBits]⟩
  | andNot => cases h
  | eql =>
    have := sameK_eq hk; subst this
    cases Option.some.inj h
    exact ⟨_, rfl, fun w => by rw [Sem.run_bind, gd, Result.andThen_ok, eqI_eq]; simp [binOp, Op.intCmp]⟩
  | neq =>
    have := sameK_eq hk; subst this
    cases Option.some.inj h
    exact ⟨_, rfl, fun w => by rw [Sem.run_bind, gd, Result.andThen_ok, eqI_eq]; simp [binOp, Op.intCmp]; rfl⟩
  | lss =>
    have := sameK_eq hk; subst this
    cases Option.some.inj h
    exact ⟨_, rfl, fun w => by rw [Sem.run_bind, gd, Result.andThen_ok, lsI_eq]; simp [binOp, Op.intCmp]⟩
  | gtr =>
    have := sameK_eq hk; subst this
    cases Option.some.inj h
    exact ⟨_, rfl, fun w => by rw [Sem.run_bind, gd, Result.andThen_ok, lsI_eq]; simp [binOp, Op.intCmp]⟩
  | leq =>
    have := sameK_eq hk; subst this
    cases Option.some.inj h
    exact ⟨_, rfl, fun w => by rw [Sem.run_bind, gd, Result.andThen_ok, lsI_eq]; simp [binOp, Op.intCmp]; by_cases e : b < a <;> simp [e] <;> omega⟩
  | geq =>
    have := sameK_eq hk; subst this
    cases Option.some.inj h
    exact ⟨_, rfl, fun w => by rw [Sem.run_bind, gd, Result.andThen_ok, lsI_eq]; simp [binOp, Op.intCmp]; by_cases e : a < b <;> simp [e] <;> omega⟩
theorem txt_beq {a b : List Nat} (ha : okS a = true) (hb : okS b = true) : (txt a == txt b) = eqL a b := by
  show ((txt a).data == (txt b).data) = _
  cases he : eqL a b with
  | true => rw [eqL_eq he]; simp
  | false => rw [beq_eq_false_iff_ne]; exact fun e => eqL_ne he (txt_inj ha hb (ByteArray.ext e))
theorem txt_beqL {a b : List Nat} (ha : okS a = true) (hb : okS b = true) : ((txt a).toList == (txt b).toList) = eqL a b := by
  rw [ByteArray.toList_eq, ByteArray.toList_eq]
  cases he : eqL a b with
  | true => rw [eqL_eq he]; simp
  | false => rw [beq_eq_false_iff_ne]; exact fun e => eqL_ne he (txt_inj ha hb (ByteArray.ext (Array.toList_inj.1 e)))
def plainV (v : Value) : Bool := match v with | .bool _ | .slice _ _ _ | .pointer _ | .func _ _ _ | .nilFunc | .nilIface | .agg _ => true | _ => false

theorem eq1_ok {T : TypeId} {a b : A} {va vb : Value} {t : Bool} (h : (eq1 P T).f a b = some t) (ha : V β a = some va) (hb : V β b = some vb) :
    va.oneCell' = true ∧ vb.oneCell' = true ∧ isAgg P T = some false ∧ (∀ d w, (Op.equalIn (d + 1) T va vb).run P w = .ok t w) ∧ ((plainV va = true ∧ plainV vb = true) ∨ (∃ k n k' n', a = .i k n ∧ b = .i k' n') ∨ (∃ l l', a = .s l ∧ b = .s l')) := by
  unfold eq1 at h
  split at h
  · rename_i k hu
    replace h : eqIn a b = some t := h
    unfold eqIn at h
    split at h
    · rename_i k1 n1 k2 n2
      rw [cn_eq] at h
      split at h
      · rename_i hk
        have := sameK_eq hk; subst this
        cases Option.some.inj h
        rw [V_i ha, V_i hb]
        refine ⟨rfl, rfl, by simp [isAgg, hu, aggB, bd], fun d w => ?_, .inr (.inl ⟨_, _, _, _, rfl, rfl⟩)⟩
        rw [eqI_eq]; simp [Op.equalIn, run_underlying hu]
      · cases h
    · cases h
  · rename_i hu
    replace h : eqSt a b = some t := h
    unfold eqSt at h
    split at h
    · rename_i l1 l2
      obtain ⟨k1, rfl⟩ := V_s ha
      obtain ⟨k2, rfl⟩ := V_s hb
      refine ⟨rfl, rfl, by simp [isAgg, hu, aggB, bd], fun d w => ?_, .inr (.inr ⟨_, _, rfl, rfl⟩)⟩
      have : (txt l1 == txt l2) = t := (txt_beq k1 k2).trans (Option.some.inj h)
      simp [Op.equalIn, run_underlying hu, this]
    · cases h
  · rename_i hu
    replace h : eqBl a b = some t := h
    unfold eqBl at h
    split at h
    · rename_i b1 b2
      cases Option.some.inj h
      rw [V_b ha, V_b hb]
      exact ⟨rfl, rfl, by simp [isAgg, hu, aggB, bd], fun d w => by simp [Op.equalIn, run_underlying hu], .inl ⟨rfl, rfl⟩⟩
    · cases h
  · cases h

theorem eqFs_ok {xs ys : List A} {us vs : List Value} (hx : Vs β xs = some us) (hy : Vs β ys = some vs) (d : Nat) : ∀ (fs : List Field) (t : Bool), eqFs P fs xs ys = some t → ∀ w,
    (forIn (m := Sem) fs ((none : Option Bool), ()) (fun f _ => if f.name ≠ "_" then do
        let a ← part f.type us.toArray f.offset
        let b ← part f.type vs.toArray f.offset
        let c ← Op.equalIn (d + 1) f.type a b
        if (!c) = true then pure (ForInStep.done (some false, ())) else pure (ForInStep.yield (none, ()))
      else pure (ForInStep.yield (none, ())))).run P w = .ok (if t then (none, ()) else (some false, ())) w
  | [], t, h, w => by cases Option.some.inj h; rfl
  | f :: fs, t, h, w => by
    have h' : gu (f.name != "_") (bd (get1 f.offset xs) fun x => bd (get1 f.offset ys) fun y => Bx.casesOn (eq1 P f.type) fun e => bd (e x y) fun t => cn t (eqFs P fs xs ys) (some false)) = some t := h
    obtain ⟨hn, h'⟩ := gu_some h'
    obtain ⟨x, h1, h'⟩ := bd_some h'
    obtain ⟨y, h2, h'⟩ := bd_some h'
    rw [Bx.co] at h'
    obtain ⟨e, h3, h'⟩ := bd_some h'
    rw [get1_eq] at h1 h2
    obtain ⟨u, k1, k2⟩ := Vs_get hx h1
    obtain ⟨v, k3, k4⟩ := Vs_get hy h2
    obtain ⟨_, _, g1, g2, _⟩ := eq1_ok h3 k2 k4
    have hn' : f.name ≠ "_" := by simpa using hn
    have hagg : (Go.isAgg f.type).run P w = .ok false w := by
      unfold isAgg at g1
      obtain ⟨dd, hd, g1⟩ := bd_some g1
      unfold Go.isAgg
      rw [Sem.run_bind, run_underlying hd w]
      have := Option.some.inj g1
      cases dd <;> first | rfl | cases this
    have p1 : (part f.type us.toArray f.offset).run P w = .ok u w := by
      unfold part; rw [Sem.run_bind, hagg]; simp [k1]
    have p2 : (part f.type vs.toArray f.offset).run P w = .ok v w := by
      unfold part; rw [Sem.run_bind, hagg]; simp [k3]
    rw [List.forIn_cons, Sem.run_bind]
    simp only [ne_eq, hn', not_false_eq_true, if_true, Sem.run_bind, p1, p2, Result.andThen_ok, g2 d w]
    cases e with
    | true =>
      simp only [Bool.not_true, Bool.false_eq_true, if_false, Sem.run_pure, Result.andThen_ok, pure_bind]
      exact eqFs_ok hx hy d fs t h' w
    | false =>
      cases Option.some.inj (show some false = some t from h')
      rfl
theorem eqD_ok {T : TypeId} {a b : A} {va vb : Value} {t : Bool} (h : (eqD P T).f a b = some t) (ha : V β a = some va) (hb : V β b = some vb) :
    (∀ w, (Op.equal T va vb).run P w = .ok t w) ∧ ((∃ x, va = .agg x) → P.eqGuardType P.depth T = false) ∧ ((plainV va = true ∧ plainV vb = true) ∨ (∃ k n k' n', a = .i k n ∧ b = .i k' n') ∨ (∃ l l', a = .s l ∧ b = .s l')) := by
  obtain ⟨d, d1, hd1, e0⟩ : ∃ d d1, d1 = d + 1 ∧ ∀ va vb w, (Op.equal T va vb).run P w = (Op.equalIn (d1 + 1) T va vb).run P w := ⟨9998, 9999, rfl, fun _ _ _ => rfl⟩
  have one : (eq1 P T).f a b = some t → (∀ w, (Op.equal T va vb).run P w = .ok t w) ∧ ((∃ x, va = .agg x) → P.eqGuardType P.depth T = false) ∧ ((plainV va = true ∧ plainV vb = true) ∨ (∃ k n k' n', a = .i k n ∧ b = .i k' n') ∨ (∃ l l', a = .s l ∧ b = .s l')) := fun h => by
    obtain ⟨h1, h2, h3, h4, h5⟩ := eq1_ok h ha hb
    exact ⟨fun w => (e0 _ _ w).trans (h4 d1 w), (fun ⟨x, hx⟩ => (by subst hx; cases h1)), h5⟩
  unfold eqD at h
  split at h
  · rename_i e hu
    replace h : eqSl a b = some t := h
    unfold eqSl at h
    split at h <;> first
      | (cases h; done)
      | (cases Option.some.inj h
         first
           | rw [V_k ha] at * | (obtain ⟨p, _, rfl⟩ := V_l ha) | (obtain ⟨p, _, _, rfl⟩ := V_o ha)
         first
           | rw [V_k hb] at * | (obtain ⟨p2, _, rfl⟩ := V_l hb) | (obtain ⟨p2, _, _, rfl⟩ := V_o hb)
         exact ⟨fun w => by rw [e0]; simp [Op.equalIn, run_underlying hu], (fun ⟨x, hx⟩ => by cases hx), .inl ⟨rfl, rfl⟩⟩)
  · rename_i e hu
    rw [cn_eq] at h
    split at h
    case isFalse => cases h
    rename_i hi
    obtain ⟨ji, hji⟩ := Option.isSome_iff_exists.1 hi
    replace h : eqPt a b = some t := h
    unfold eqPt at h
    split at h <;> first
      | (cases h; done)
      | (cases Option.some.inj h
         first
           | rw [V_k ha] at * | (obtain ⟨p, _, rfl⟩ := V_p ha)
         first
           | rw [V_k hb] at * | (obtain ⟨p2, _, rfl⟩ := V_p hb)
         exact ⟨fun w => by rw [e0]; simp [Op.equalIn, run_underlying hu], (fun ⟨x, hx⟩ => by cases hx), .inl ⟨rfl, rfl⟩⟩)
      | skip
    rename_i n o n' o'
    rw [cn_eq] at h
    split at h
    · rename_i e1
      rw [cn_eq] at h
      split at h
      · rename_i e2
        cases Option.some.inj h
        have := Po.eq_eq e1; subst this
        have := Nat.eq_of_beq_eq_true e2; subst this
        obtain ⟨p, h1, rfl⟩ := V_p ha
        obtain ⟨p2, h2, rfl⟩ := V_p hb
        rw [h1] at h2; cases h2
        refine ⟨fun w => ?_, (fun ⟨x, hx⟩ => by cases hx), .inl ⟨rfl, rfl⟩⟩
        rw [e0]
        by_cases hz : ji.size = 0 <;> simp [Op.equalIn, run_underlying hu, sizeOf, typeInfo, hji, hz, sameAddr]
      · cases h
    · cases h
  · rename_i hu
    replace h : eqFn a b = some t := h
    unfold eqFn at h
    split at h <;> first
      | (cases h; done)
      | (cases Option.some.inj h
         first
           | rw [V_k ha] at * | (obtain ⟨p, _, rfl⟩ := V_f ha)
         first
           | rw [V_k hb] at * | (obtain ⟨p2, _, rfl⟩ := V_f hb)
         exact ⟨fun w => by rw [e0]; simp [Op.equalIn, run_underlying hu], (fun ⟨x, hx⟩ => by cases hx), .inl ⟨rfl, rfl⟩⟩)
  · rename_i hu
    replace h : eqIf a b = some t := h
    unfold eqIf at h
    split at h <;> first
      | (cases h; done)
      | (cases Option.some.inj h
         rw [V_k ha, V_k hb] at *
         exact ⟨fun w => by rw [e0]; simp [Op.equalIn, run_underlying hu], (fun ⟨x, hx⟩ => by cases hx), .inl ⟨rfl, rfl⟩⟩)
  · rename_i fs hu
    rw [cn_eq] at h
    split at h
    · rename_i hs
      rw [Bool.and_eq_true, Bool.not_eq_true', Bool.not_eq_true'] at hs
      obtain ⟨xs, h1, h⟩ := bd_some h
      obtain ⟨ys, h2, h⟩ := bd_some h
      have := A.G_eq h1; subst this
      have := A.G_eq h2; subst this
      obtain ⟨us, k1, rfl⟩ := V_g ha
      obtain ⟨vs, k2, rfl⟩ := V_g hb
      refine ⟨fun w => ?_, fun _ => hs.2, .inl ⟨rfl, rfl⟩⟩
      rw [e0]
      unfold Op.equalIn
      simp only [Sem.run_bind, run_underlying hu, Result.andThen_ok]
      have e1 : (program : Sem Program).run P w = .ok P w := rfl
      rw [e1, Result.andThen_ok, if_neg (by rw [hs.1]; simp), Sem.run_bind, ← Array.forIn_toList]
      subst hd1
      have hF := eqFs_ok (P := P) k1 k2 d fs.toList t (show eqFs P fs.toList xs ys = some t from by assumption) w
      refine (congrArg (fun r => Result.andThen r _) hF).trans ?_
      cases t <;> rfl
    · cases h
  · exact one h
theorem V_nilIface {a : A} (h : V β a = some .nilIface) : a = .k .nilIface := by
  cases a with
  | k u => rw [V_k h]
  | i _ _ => cases V_i h
  | b _ => cases V_b h
  | s _ => obtain ⟨_, e⟩ := V_s h; cases e
  | p _ _ => obtain ⟨_, _, e⟩ := V_p h; cases e
  | l _ _ _ _ => obtain ⟨_, _, e⟩ := V_l h; cases e
  | o _ _ _ _ => obtain ⟨_, _, _, e⟩ := V_o h; cases e
  | m _ => obtain ⟨_, _, e⟩ := V_m h; cases e
  | f _ _ => obtain ⟨_, _, e⟩ := V_f h; cases e
  | y _ => obtain ⟨_, _, e⟩ := V_y h; cases e
  | g _ => obtain ⟨_, _, e⟩ := V_g h; cases e
  | t _ => obtain ⟨_, _, e⟩ := V_t h; cases e
theorem run_bin {T : TypeId} {op : BinOp} {a b r : A} {va vb : Value} {x y : Operand} (h : bin P T op a b = some r) (ha : V β a = some va) (hb : V β b = some vb)
    (hg : ifG a (isC x || isC y) = true) : ∃ v, V β r = some v ∧ ∀ w, (do eqGuard op T x y va vb; binOp op T va vb : Sem Value).run P w = .ok v w := by
  by_cases hi : ∃ k n k' n', a = .i k n ∧ b = .i k' n'
  · obtain ⟨k, n, k', n', rfl, rfl⟩ := hi
    replace h : cn (isSh op || sameK k k') (Bx.casesOn (binI op) fun f => f k n n') none = some r := h
    rw [cn_eq] at h
    split at h
    · rename_i hk
      rw [Bx.co] at h
      rw [V_i ha, V_i hb]
      exact run_bin_int hk h
    · cases h
  by_cases hs : ∃ l l', a = .s l ∧ b = .s l'
  · obtain ⟨l, l', rfl, rfl⟩ := hs
    replace h : binS op l l' = some r := h
    obtain ⟨k1, rfl⟩ := V_s ha
    obtain ⟨k2, rfl⟩ := V_s hb
    have gd : ∀ w, (eqGuard op T x y (.string (txt l)) (.string (txt l'))).run P w = .ok () w := fun w => by cases op <;> rfl
    unfold binS at h
    split at h
    · obtain ⟨hl, h⟩ := gu_some h
      cases Option.some.inj h
      refine ⟨_, V_smk (okS_app k1 k2), fun w => ?_⟩
      have hl := Nat.le_of_ble_eq_true hl
      have h' : ¬ (((txt l).size + (txt l').size : Nat) : Int) > IntKind.i64.max := by
        rw [txt_size, txt_size]
        have : IntKind.i64.max = 9223372036854775807 := by decide
        unfold lim at hl
        omega
      rw [Sem.run_bind, gd, Result.andThen_ok]
      simp only [binOp, Op.stringOp, if_neg h', txt_app]; rfl
    · cases Option.some.inj h
      exact ⟨_, rfl, fun w => by rw [Sem.run_bind, gd, Result.andThen_ok, ← txt_beqL k1 k2]; simp [binOp, Op.stringOp]⟩
    · cases Option.some.inj h
      exact ⟨_, rfl, fun w => by rw [Sem.run_bind, gd, Result.andThen_ok, ← txt_beqL k1 k2]; simp [binOp, Op.stringOp]⟩
    · cases h
  have hO : binO P T op a b = some r := by
    unfold bin at h
    split at h
    · exact absurd ⟨_, _, _, _, rfl, rfl⟩ hi
    · exact absurd ⟨_, _, rfl, rfl⟩ hs
    · exact h
  have key : ∀ t, (eqD P T).f a b = some t → (op = .eql ∨ op = .neq) → ∀ w, (do eqGuard op T x y va vb; binOp op T va vb : Sem Value).run P w = .ok (.bool (if op = .eql then t else !t)) w := by
    intro t ht hop w
    obtain ⟨h1, h2, h3⟩ := eqD_ok ht ha hb
    rcases h3 with ⟨p1, p2⟩ | h3 | h3
    · have gd : (eqGuard op T x y va vb).run P w = .ok () w := by
        unfold eqGuard
        rcases hop with rfl | rfl
        all_goals
          simp only [Bool.not_true, Bool.false_eq_true, if_false, pure_bind]
          split
          · have ha' : a = .k .nilIface := by
              exact V_nilIface ha
            subst ha'
            replace hg : (isC x || isC y) = true := hg
            rw [Bool.or_eq_true] at hg
            unfold isC at hg
            rcases hg with hg | hg
            · obtain ⟨v, rfl⟩ : ∃ v, x = .const v := by cases x <;> first | exact ⟨_, rfl⟩ | cases hg
              simp
            · obtain ⟨v, rfl⟩ : ∃ v, y = .const v := by cases y <;> first | exact ⟨_, rfl⟩ | cases hg
              simp
          · have e1 : (program : Sem Program).run P w = .ok P w := rfl
            simp [h2 ⟨_, rfl⟩]
          · rfl
      rw [Sem.run_bind, gd, Result.andThen_ok]
      rcases hop with rfl | rfl
      · cases va <;> cases p1 <;> cases vb <;> cases p2 <;> simp [binOp, h1]
      · cases va <;> cases p1 <;> cases vb <;> cases p2 <;> simp [binOp, h1]
    · exact absurd h3 hi
    · exact absurd h3 hs
  unfold binO at hO
  split at hO
  · rw [Bx.co] at hO
    obtain ⟨t, h1, h2⟩ := bd_some hO
    cases Option.some.inj h2
    exact ⟨_, rfl, fun w => key t h1 (.inl rfl) w⟩
  · rw [Bx.co] at hO
    obtain ⟨t, h1, h2⟩ := bd_some hO
    cases Option.some.inj h2
    exact ⟨_, rfl, fun w => key t h1 (.inr rfl) w⟩
  · cases hO
end
end Go.Ev
namespace Go.Ev
open Go.RowKit
section
variable {P : Program} {β : Be} {c : Lc} {st : List A} {m : Tr A} {ρ : Operand → Value}
theorem evs_ok : ∀ {l : List Operand} {as : List A}, evs c l st m = some as → (∀ x ∈ l, ∀ a, ev c x st m = some a → V β a = some (ρ x)) → Vs β as = some (l.map ρ)
  | [], as, h, _ => by cases Option.some.inj h; rfl
  | x :: l, as, h, hρ => by
    obtain ⟨a, h1, h⟩ := bd_some (show bd (ev c x st m) (fun a => bd (evs c l st m) fun l => some (a :: l)) = some as from h)
    obtain ⟨r, h2, h⟩ := bd_some h
    cases Option.some.inj h
    exact Vs_mk (hρ x (by simp) a h1) (evs_ok h2 fun y hy => hρ y (by simp [hy]))
theorem parts_ok : ∀ {l : List (Nat × Operand)} {as : List (Nat × A)}, parts c l st m = some as → (∀ p ∈ l, ∀ a, ev c p.2 st m = some a → V β a = some (ρ p.2)) →
    as.map (·.1) = l.map (·.1) ∧ Vs β (as.map (·.2)) = some (l.map fun p => ρ p.2)
  | [], as, h, _ => by cases Option.some.inj h; exact ⟨rfl, rfl⟩
  | x :: l, as, h, hρ => by
    obtain ⟨a, h1, h⟩ := bd_some (show bd (ev c x.2 st m) (fun a => bd (parts c l st m) fun l => some ((x.1, a) :: l)) = some as from h)
    obtain ⟨r, h2, h⟩ := bd_some h
    cases Option.some.inj h
    obtain ⟨k1, k2⟩ := parts_ok h2 fun y hy => hρ y (by simp [hy])
    exact ⟨by simp [k1], Vs_mk (hρ x (by simp) a h1) k2⟩
theorem zeroB_ok {T : TypeId} {z : List A} (h : zeroB P T = some z) : ∃ i v, P.info? T = some i ∧ i.zero = some v ∧ Vs β z = some v.cells.toList := by
  obtain ⟨i, h1, h⟩ := bd_some h
  obtain ⟨v, h2, h⟩ := bd_some h
  cases Option.some.inj h
  exact ⟨i, v, h1, h2, Vs_ofV1 β _⟩
theorem sizeB_ok {T : TypeId} {n : Nat} (h : sizeB P T = some n) : ∃ i, P.info? T = some i ∧ i.size = n := by
  obtain ⟨i, h1, h⟩ := bd_some h
  exact ⟨i, h1, Option.some.inj h⟩
theorem slB_ok {T e : TypeId} (h : slB P T = some e) : P.underlying T = some (.slice e) := by
  obtain ⟨d, h1, h⟩ := bd_some h
  split at h
  · cases Option.some.inj h; exact h1
  · cases h
theorem slS_ok {T : TypeId} {q : TypeId × Nat} (h : slS P T = some q) : P.underlying T = some (.slice q.1) ∧ ∃ i, P.info? q.1 = some i ∧ i.size = q.2 := by
  obtain ⟨e, h1, h⟩ := bd_some h
  obtain ⟨s, h2, h⟩ := bd_some h
  cases Option.some.inj h
  exact ⟨slB_ok h1, sizeB_ok h2⟩
theorem fldB_ok {T : TypeId} {f : Nat} {q : Nat × TypeId} (h : fldB P T f = some q) : ∃ fs x, P.underlying T = some (.struct fs) ∧ fs[f]? = some x ∧ x.offset = q.1 ∧ x.type = q.2 := by
  obtain ⟨d, h1, h⟩ := bd_some h
  split at h
  · rename_i fs
    obtain ⟨x, h2, h⟩ := bd_some h
    cases Option.some.inj h
    exact ⟨fs, x, h1, h2, rfl, rfl⟩
  · cases h
theorem isAgg_ok {T : TypeId} {g : Bool} (h : isAgg P T = some g) (w : World) : (Go.isAgg T).run P w = .ok g w := by
  obtain ⟨d, h1, h⟩ := bd_some h
  unfold Go.isAgg
  rw [Sem.run_bind, run_underlying h1 w]
  have := Option.some.inj h
  subst this
  cases d <;> rfl
theorem cells_ok {a : A} {v : Value} (h : V β a = some v) (hk : ∀ u, a = .k u → vone u = true) : Vs β a.cells = some v.cells.toList := by
  cases a with
  | g l => obtain ⟨vs, h1, rfl⟩ := V_g h; simpa [A.cells, Value.cells] using h1
  | k u => have := V_k h; subst this; have := hk _ rfl; cases v <;> first | (cases this; done) | rfl
  | i _ _ => rw [V_i h]; rfl
  | b _ => rw [V_b h]; rfl
  | s l => obtain ⟨k, rfl⟩ := V_s h; exact Vs_mk h rfl
  | p _ _ => obtain ⟨p, h1, rfl⟩ := V_p h; exact Vs_mk h rfl
  | l _ _ _ _ => obtain ⟨p, h1, rfl⟩ := V_l h; exact Vs_mk h rfl
  | o _ _ _ _ => obtain ⟨p, h1, _, rfl⟩ := V_o h; exact Vs_mk h rfl
  | m _ => obtain ⟨p, h1, rfl⟩ := V_m h; exact Vs_mk h rfl
  | f _ _ => obtain ⟨p, h1, rfl⟩ := V_f h; exact Vs_mk h rfl
  | y _ => obtain ⟨p, h1, rfl⟩ := V_y h; exact Vs_mk h rfl
  | t _ => obtain ⟨p, h1, rfl⟩ := V_t h; exact Vs_mk h rfl

theorem foldl_set : ∀ (l : List Value) (j k : Nat) (cs : Array Value), k + j + l.length ≤ cs.size →
    (l.zipIdx j).foldl (fun cs (x : Value × Nat) => cs.setIfInBounds (k + x.2) x.1) cs = (cs.toList.take (k + j) ++ l ++ cs.toList.drop (k + j + l.length)).toArray
  | [], j, k, cs, _ => by simp
  | x :: l, j, k, cs, h => by
    rw [List.length_cons] at h
    rw [List.zipIdx_cons, List.foldl_cons, foldl_set l (j + 1) k _ (by simp; omega)]
    congr 1
    apply List.ext_getElem?
    intro q
    simp only [Array.toList_setIfInBounds, List.getElem?_append, List.length_append, List.length_take, List.length_set, Array.length_toList, List.length_cons, List.getElem?_take, List.getElem?_drop, List.getElem?_set, List.getElem?_cons]
    have e1 : min (k + (j + 1)) cs.size = k + j + 1 := by omega
    have e2 : min (k + j) cs.size = k + j := by omega
    rw [e1, e2]
    by_cases h1 : q < k + j
    · simp [h1, show q < k + j + 1 + l.length by omega, show q < k + j + (l.length + 1) by omega, show q < k + j + 1 by omega, show ¬ k + j = q by omega, show q < k + (j + 1) by omega]
    · by_cases h2 : q = k + j
      · subst h2
        simp [show k + j < k + j + 1 + l.length by omega, show k + j < k + j + (l.length + 1) by omega, show k + j < k + (j + 1) by omega, show k + j < cs.size by omega]
      · by_cases h3 : q < k + j + 1 + l.length
        · simp [h1, h3, show q < k + j + (l.length + 1) by omega, show ¬ q < k + j + 1 by omega, show ¬ (q - (k + j) = 0) by omega, show q - (k + j) - 1 = q - (k + j + 1) by omega]
        · simp [h1, h3, show ¬ q < k + j + (l.length + 1) by omega, show ¬ k + j = k + (j + 1) + l.length + (q - (k + j + 1 + l.length)) by omega]
          congr 1; omega
theorem fill_ok {place : Nat → Option (Nat × Nat)} {place' : Nat → Option (Nat × Nat)} (hp : ∀ i q, place i = some q → place' i = some q) : ∀ {ps : List (Nat × A)} {cs r : List A} {us vs : List Value} {pv : List (Nat × Value)},
    fill place ps cs = some r → Vs β cs = some us → pv.map (·.1) = ps.map (·.1) → Vs β (ps.map (·.2)) = some (pv.map (·.2)) → (∀ p ∈ ps, ∀ u, p.2 = .k u → vone u = true) →
    ∃ rs, Vs β r = some rs ∧ Instr.fill place' us.toArray pv = some rs.toArray
  | [], cs, r, us, vs, pv, h, hc, h1, h2, _ => by
    cases Option.some.inj h
    cases pv with
    | nil => exact ⟨us, hc, rfl⟩
    | cons _ _ => simp at h1
  | p :: ps, cs, r, us, vs, pv, h, hc, h1, h2, hk => by
    obtain ⟨q, g1, h⟩ := bd_some (show bd (place p.1) (fun q => gu (Nat.beq p.2.cells.length q.2) (bd (putAt p.2.cells q.1 cs) fun cs => fill place ps cs)) = some r from h)
    obtain ⟨g2, h⟩ := gu_some h
    obtain ⟨cs', g3, h⟩ := bd_some h
    cases pv with
    | nil => simp at h1
    | cons pv0 pv =>
      simp only [List.map_cons, List.cons.injEq] at h1
      rw [List.map_cons, List.map_cons] at h2
      obtain ⟨v, rr, k1, k2, k3⟩ := Vs_cons h2
      injection k3 with k3 k4
      subst k3; subst k4
      have hcells := cells_ok k1 (hk p (by simp))
      have g2 := Nat.eq_of_beq_eq_true g2
      have hsz : pv0.2.cells.size = q.2 := by rw [← g2, ← Vs_len hcells]; simp
      obtain ⟨l1, l2⟩ := putAt_eq g3
      have hul := Vs_len hc
      have hVc : Vs β cs' = some (us.take q.1 ++ pv0.2.cells.toList ++ us.drop (q.1 + pv0.2.cells.toList.length)) := by
        rw [l2, Vs_len hcells]
        exact Vs_app (Vs_app (Vs_take _ hc) hcells) (Vs_drop _ hc)
      obtain ⟨rs, r1, r2⟩ := fill_ok (vs := vs) hp h hVc h1.2 k2 fun x hx => hk x (by simp [hx])
      refine ⟨rs, r1, ?_⟩
      unfold Instr.fill
      have hpl : place' pv0.1 = some q := by rw [h1.1]; exact hp _ _ g1
      rw [hpl]
      simp only
      have hle : ¬ (q.1 + pv0.2.cells.size > us.toArray.size) := by
        have : pv0.2.cells.size = p.2.cells.length := by rw [hsz, g2]
        simp; omega
      rw [if_neg (by simp [hsz]; rw [hsz] at hle; simpa using hle)]
      have e := foldl_set pv0.2.cells.toList 0 q.1 us.toArray (by simp at hle ⊢; omega)
      have e0 : pv0.2.cells.zipIdx.foldl (fun cs (x : Value × Nat) => cs.setIfInBounds (q.1 + x.2) x.1) us.toArray = (pv0.2.cells.toList.zipIdx 0).foldl (fun cs (x : Value × Nat) => cs.setIfInBounds (q.1 + x.2) x.1) us.toArray := by
        rw [← Array.foldl_toList]; simp
      refine Eq.trans ?_ r2
      congr 1
      exact e0.trans e
end
end Go.Ev
namespace Go.Ev
open Go.RowKit
theorem A.ok_k {a : A} (h : a.ok = true) : ∀ u, a = .k u → vone u = true := fun u e => by subst e; exact h
section
variable {P : Program} {β : Be} {c : Lc} {st : List A} {m : Tr A} {ρ : Operand → Value}

def Pu (P : Program) (β : Be) (o : Op) (ρ : Operand → Value) (a : A) : Prop := ∃ v, V β a = some v ∧ ∀ w d ty pos aft gd, (execOp ρ ⟨d, o, ty, pos, aft, gd⟩).run P w = .ok (.value v) w
theorem Pl.at_add (p : Pl) (o k : Nat) : (p.at o).add k = p.at (o + k) := by
  unfold Addr.add Pl.at; split
  · rename_i h; subst h; rfl
  · simp [Nat.add_assoc]
theorem mapM_sizes {w : World} : ∀ {fs : List Field}, (∀ f ∈ fs, (P.info? f.type).isSome = true) →
    (fs.mapM (m := Sem) fun f => do let s ← sizeOf f.type; pure (f.offset, s)).run P w = .ok (fs.map fun f => (f.offset, ((P.info? f.type).map (·.size)).getD 0)) w
  | [], _ => rfl
  | f :: fs, h => by
    obtain ⟨i, hi⟩ := Option.isSome_iff_exists.1 (h f (by simp))
    have ih := mapM_sizes (w := w) (fs := fs) fun g hg => h g (by simp [hg])
    have e1 : (sizeOf f.type).run P w = .ok i.size w := by simp [sizeOf, typeInfo, hi]
    rw [List.mapM_cons]
    simp only [Sem.run_bind, e1, Result.andThen_ok, Sem.run_pure, ih, List.map_cons, hi, Option.map_some, Option.getD_some]
theorem build_ok {T : TypeId} {i : TypeInfo} {zv : Value} {z cs : List A} {l : List (Nat × A)} {pv : List (Nat × Value)} (h0 : bldOk P T = true) (k1 : P.info? T = some i) (k2 : i.zero = some zv) (k3 : Vs β z = some zv.cells.toList)
    (h : fill (placeD P T) l z = some cs) (h1 : pv.map (·.1) = l.map (·.1)) (h2 : Vs β (l.map (·.2)) = some (pv.map (·.2))) (hk : ∀ p ∈ l, ∀ u, p.2 = .k u → vone u = true) :
    ∃ rs, Vs β cs = some rs ∧ ∀ w, (Instr.build T pv.toArray).run P w = .ok (.agg rs.toArray) w := by
  unfold bldOk at h0
  have ez : ∀ w, (zeroValue T).run P w = .ok zv w := fun w => by simp [zeroValue, typeInfo, k1, k2]
  split at h0
  · rename_i fs hu
    rw [List.all_eq_true] at h0
    have hp : ∀ i q, placeD P T i = some q → ((fs.toList.map fun f => (f.offset, ((P.info? f.type).map (·.size)).getD 0)).toArray)[i]? = some q := fun i q hq => by
      obtain ⟨d, e1, hq⟩ := bd_some hq
      rw [hu] at e1; cases e1
      obtain ⟨x, e2, hq⟩ := bd_some hq
      obtain ⟨n, e3, hq⟩ := bd_some hq
      cases Option.some.inj hq
      obtain ⟨fs', y, g1, g2, g3, g4⟩ := fldB_ok e2
      rw [hu] at g1; cases g1
      obtain ⟨j, g5, g6⟩ := sizeB_ok e3
      have g2' : fs.toList[i]? = some y := by simpa using g2
      simp only [List.getElem?_toArray, List.getElem?_map, g2', Option.map_some]
      rw [g4, g5, g3]; simp [g6]
    obtain ⟨rs, r1, r2⟩ := fill_ok (vs := []) hp h k3 h1 h2 hk
    refine ⟨rs, r1, fun w => ?_⟩
    have hm := mapM_sizes (P := P) (w := w) (fs := fs.toList) (fun f hf => h0 f hf)
    have hm' : (fs.mapM (m := Sem) fun f => do let s ← sizeOf f.type; pure (f.offset, s)).run P w = .ok (fs.toList.map fun f => (f.offset, ((P.info? f.type).map (·.size)).getD 0)).toArray w := by
      have : fs = fs.toList.toArray := rfl
      rw [this, List.mapM_toArray]
      simp only [Sem.run_map, hm]
      rfl
    unfold Instr.build
    simp only [Sem.run_bind, ez, Result.andThen_ok, run_underlying hu]
    rw [hm']
    simp only [Result.andThen_ok]
    have r2' : Instr.fill (fun x => (List.map (fun f => (f.offset, (Option.map (fun x => x.size) (P.info? f.type)).getD 0)) fs.toList).toArray[x]?) zv.cells pv.toArray.toList = some rs.toArray := r2
    rw [r2']; rfl
  · rename_i n e hu
    obtain ⟨sz, hsz⟩ := Option.isSome_iff_exists.1 h0
    obtain ⟨j, g5, g6⟩ := sizeB_ok hsz
    have hp : ∀ i q, placeD P T i = some q → some (i * sz, sz) = some q := fun i q hq => by
      obtain ⟨d, e1, hq⟩ := bd_some hq
      rw [hu] at e1; cases e1
      obtain ⟨s, e2, hq⟩ := bd_some hq
      rw [hsz] at e2; cases e2
      exact hq
    obtain ⟨rs, r1, r2⟩ := fill_ok (vs := []) hp h k3 h1 h2 hk
    refine ⟨rs, r1, fun w => ?_⟩
    have es : (sizeOf e).run P w = .ok sz w := by simp [sizeOf, typeInfo, g5, g6]
    unfold Instr.build
    simp only [Sem.run_bind, ez, Result.andThen_ok, run_underlying hu, es]
    have r2' : Instr.fill (fun i => some (i * sz, sz)) zv.cells pv.toArray.toList = some rs.toArray := r2
    rw [r2']; rfl
  · cases h0
theorem txt_extract (l : List Nat) (i j : Nat) : (txt l).extract i j = txt ((l.take j).drop i) := by
  apply ByteArray.ext
  unfold txt
  simp only [ByteArray.data_extract, List.extract_toArray, List.extract_eq_take_drop]
  rw [Array.mk.injEq, List.drop_take, List.map_take, List.map_drop]
theorem strB_ok {T : TypeId} (h : strB P T = true) (w : World) : (underlying T).run P w = .ok .string w := by
  unfold strB at h
  split at h
  · rename_i hu; exact run_underlying hu w
  · cases h
theorem idx_ok {T : TypeId} {x a : A} {i : Nat} {vx : Value} (h : (idxD P T).f x i = some a) (hx : V β x = some vx) (k : IntKind) :
    ∃ v, V β a = some v ∧ ∀ w, (Instr.indexAt T vx (.int k (.ofNat i))).run P w = .ok v w := by
  unfold idxD at h
  split at h
  · rename_i e hu
    split at h
    · rename_i sz hs
      obtain ⟨j, g5, g6⟩ := sizeB_ok hs
      replace h : idxS sz x i = some a := h
      unfold idxS at h
      split at h
      · obtain ⟨h1, h⟩ := gu_some h
        cases Option.some.inj h
        obtain ⟨p, hp, rfl⟩ := V_l hx
        have h1 := Nat.le_of_ble_eq_true h1
        refine ⟨_, by show (β _).map _ = _; rw [hp]; rfl, fun w => ?_⟩
        simp [Instr.indexAt, asIntOf, run_underlying hu, sizeOf, typeInfo, g5, g6, Pl.at_add]
        omega
      · obtain ⟨h1, h⟩ := gu_some h
        obtain ⟨h3, h⟩ := gu_some h
        cases Option.some.inj h
        obtain ⟨p, hp, _, rfl⟩ := V_o hx
        have h1 := Nat.le_of_ble_eq_true h1
        refine ⟨_, by show (β _).map _ = _; rw [hp]; rfl, fun w => ?_⟩
        simp [Instr.indexAt, asIntOf, run_underlying hu, sizeOf, typeInfo, g5, g6, Pl.at_add]
        omega
      · cases h
    · cases h
  · rename_i len e hu
    split at h
    · rename_i sz hs
      obtain ⟨j, g5, g6⟩ := sizeB_ok hs
      obtain ⟨q, h1, h⟩ := bd_some (show bd x.P (fun q => gu (Nat.ble (Nat.succ i) len) (some (A.p q.1 (q.2 + i * sz)))) = some a from h)
      obtain ⟨h2, h⟩ := gu_some h
      cases Option.some.inj h
      rw [A.P_eq h1] at hx
      obtain ⟨p, hp, rfl⟩ := V_p hx
      have h2 := Nat.le_of_ble_eq_true h2
      refine ⟨_, by show (β _).map _ = _; rw [hp]; rfl, fun w => ?_⟩
      simp [Instr.indexAt, asIntOf, run_underlying hu, Instr.sureAddr, sizeOf, typeInfo, g5, g6, Pl.at_add]
      omega
    · cases h
  · cases h

def Bdd (n : Option Nat) (v : Option Value) : Prop := (n = none ∧ v = none) ∨ ∃ k i, n = some i ∧ v = some (.int k (.ofNat i))
theorem evO_ok {x : Option Operand} {n : Option Nat} (h : evO c x st m = some n) (hρ : ∀ y, x = some y → ∀ a, ev c y st m = some a → V β a = some (ρ y)) : Bdd n (x.map ρ) := by
  unfold evO at h
  split at h
  · cases Option.some.inj h; exact .inl ⟨rfl, rfl⟩
  · rename_i y
    obtain ⟨a, h1, h⟩ := bd_some h
    obtain ⟨i, h2, h⟩ := bd_some h
    cases Option.some.inj h
    obtain ⟨k, e⟩ := A.N_eq h2
    rw [e] at h1
    exact .inr ⟨k, i, rfl, by rw [Option.map_some, V_i (hρ y rfl _ h1)]⟩
theorem bounds_ok {s : Bool} {len cap : Nat} {n1 n2 : Option Nat} {lo hi : Option Value} (h1 : Bdd n1 lo) (h2 : Bdd n2 hi) (k1 : n1.getD 0 ≤ n2.getD len) (k2 : n2.getD len ≤ cap) (w : World) :
    (Instr.sliceBounds s len cap lo hi none).run P w = .ok (n1.getD 0, n2.getD len, cap) w := by
  rcases h1 with ⟨rfl, rfl⟩ | ⟨k, i, rfl, rfl⟩ <;> rcases h2 with ⟨rfl, rfl⟩ | ⟨k', i', rfl, rfl⟩ <;> simp only [Option.getD_none, Option.getD_some] at k1 k2
  · simp [Instr.sliceBounds]
  · have : (0 ≤ (i' : Int) ∧ (i' : Int) ≤ (cap : Int)) := by omega
    simp [Instr.sliceBounds, Instr.sliceBound, asIntOf, k2]
  · simp [Instr.sliceBounds, Instr.sliceBound, asIntOf, k1]
  · simp [Instr.sliceBounds, Instr.sliceBound, asIntOf, k1, k2]
theorem slice_ok {T : TypeId} {n1 n2 : Option Nat} {x a : A} {vx : Value} {lo hi : Option Value} (h : sliceD P T n1 n2 x = some a) (hx : V β x = some vx) (h1 : Bdd n1 lo) (h2 : Bdd n2 hi) :
    ∃ v, V β a = some v ∧ ∀ w, (Instr.sliceAt T vx lo hi none).run P w = .ok v w := by
  unfold sliceD at h
  split at h
  · rename_i l
    obtain ⟨k0, h⟩ := gu_some h
    obtain ⟨k1, h⟩ := gu_some h
    obtain ⟨k2, h⟩ := gu_some h
    cases Option.some.inj h
    obtain ⟨hl, rfl⟩ := V_s hx
    refine ⟨_, V_smk (okS_drop _ (okS_take _ hl)), fun w => ?_⟩
    have hb := bounds_ok (P := P) (s := false) h1 h2 (Nat.le_of_ble_eq_true k1) (Nat.le_of_ble_eq_true k2) w
    have hu := strB_ok k0 w
    simp only [Instr.sliceAt, Sem.run_bind, hu, Result.andThen_ok, Instr.slice, txt_size, hb]
    simp only [Option.isSome_none, Bool.false_eq_true, if_false, pure_bind, Sem.run_bind, hb, Result.andThen_ok, Sem.run_pure, txt_extract]
  · rename_i q off len cap
    obtain ⟨e, k0, h⟩ := bd_some h
    obtain ⟨k1, h⟩ := gu_some h
    obtain ⟨k2, h⟩ := gu_some h
    cases Option.some.inj h
    obtain ⟨p, hp, rfl⟩ := V_l hx
    obtain ⟨hu, j, g5, g6⟩ := slS_ok k0
    refine ⟨_, by show (β _).map _ = _; rw [hp]; rfl, fun w => ?_⟩
    have hb := bounds_ok (P := P) (s := true) h1 h2 (Nat.le_of_ble_eq_true k1) (Nat.le_of_ble_eq_true k2) w
    have es : (sizeOf e.1).run P w = .ok e.2 w := by simp [sizeOf, typeInfo, g5, g6]
    simp only [Instr.sliceAt, Sem.run_bind, run_underlying hu, Result.andThen_ok, Instr.slice, hb, es, Sem.run_pure]
    congr 2
    rw [cn_eq]
    by_cases hc : cap = n1.getD 0
    · rw [if_pos hc, if_pos (by rw [hc]; exact Nat.beq_refl _)]
    · rw [if_neg hc, if_neg (by intro hh; exact hc (Nat.eq_of_beq_eq_true hh)), Option.map_some, Pl.at_add]
  · rename_i q off len sz
    obtain ⟨e, k0, h⟩ := bd_some h
    obtain ⟨ks, h⟩ := gu_some h
    obtain ⟨k1, h⟩ := gu_some h
    obtain ⟨k2, h⟩ := gu_some h
    obtain ⟨k3, h⟩ := gu_some h
    obtain ⟨k4, h⟩ := gu_some h
    cases Option.some.inj h
    obtain ⟨p, hp, hle, rfl⟩ := V_o hx
    obtain ⟨hu, j, g5, g6⟩ := slS_ok k0
    have ks := Nat.eq_of_beq_eq_true ks
    have k1 := Nat.le_of_ble_eq_true k1
    have k2 := Nat.le_of_ble_eq_true k2
    have k3 := Nat.le_of_ble_eq_true k3
    have k4 := Nat.le_of_ble_eq_true k4
    have ec : (p.size - (p.boff + (off + n1.getD 0 * sz))) / sz = (p.size - (p.boff + off)) / sz - n1.getD 0 := by
      rw [← Nat.add_assoc, ← Nat.sub_sub, Nat.mul_comm]; exact Nat.sub_mul_div ..
    refine ⟨_, V_omk hp (by rw [ec]; omega), fun w => ?_⟩
    have hb := bounds_ok (P := P) (s := true) h1 h2 k1 (Nat.le_trans k2 hle) w
    have es : (sizeOf e.1).run P w = .ok sz w := by simp [sizeOf, typeInfo, g5, g6, ks]
    simp only [Instr.sliceAt, Sem.run_bind, run_underlying hu, Result.andThen_ok, Instr.slice, hb, es, Sem.run_pure, ec]
    congr 2
    rw [if_neg (by omega), Option.map_some, Pl.at_add]
  · rename_i q off
    obtain ⟨d, k0, h⟩ := bd_some h
    split at h
    · rename_i len e
      obtain ⟨sz, ks, h⟩ := bd_some h
      obtain ⟨k1, h⟩ := gu_some h
      obtain ⟨k2, h⟩ := gu_some h
      cases Option.some.inj h
      obtain ⟨p, hp, rfl⟩ := V_p hx
      obtain ⟨j, g5, g6⟩ := sizeB_ok ks
      refine ⟨_, by show (β _).map _ = _; rw [hp]; rfl, fun w => ?_⟩
      have hb := bounds_ok (P := P) (s := false) h1 h2 (Nat.le_of_ble_eq_true k1) (Nat.le_of_ble_eq_true k2) w
      have es : (sizeOf e).run P w = .ok sz w := by simp [sizeOf, typeInfo, g5, g6]
      simp only [Instr.sliceAt, Sem.run_bind, run_underlying k0, Result.andThen_ok, Instr.sureAddr, hb, es, Sem.run_pure]
      congr 2
      rw [cn_eq]
      by_cases hc : len = n1.getD 0
      · rw [if_pos hc, if_pos (by rw [hc]; exact Nat.beq_refl _)]
      · rw [if_neg hc, if_neg (by intro hh; exact hc (Nat.eq_of_beq_eq_true hh)), Pl.at_add]
    · cases h
  · obtain ⟨e, k0, h⟩ := bd_some h
    obtain ⟨k1, h⟩ := gu_some h
    obtain ⟨k2, h⟩ := gu_some h
    cases Option.some.inj h
    have := V_k hx; subst this
    obtain ⟨hu, j, g5, g6⟩ := slS_ok k0
    have k1 := Nat.eq_of_beq_eq_true k1
    have k2 := Nat.eq_of_beq_eq_true k2
    refine ⟨_, rfl, fun w => ?_⟩
    have hb := bounds_ok (P := P) (s := true) (len := 0) (cap := 0) h1 h2 (by omega) (by omega) w
    have es : (sizeOf e.1).run P w = .ok e.2 w := by simp [sizeOf, typeInfo, g5, g6]
    simp only [Instr.sliceAt, Sem.run_bind, run_underlying hu, Result.andThen_ok, Instr.slice, hb, es, Sem.run_pure, k1, k2]
    rfl
  · cases h
theorem run_bi {b : Builtin} {args : Array Operand} {ts : Array TypeId} {vs : List Value} (hv : args.toList.map ρ = vs) {d : Option Tmp} {ty : TypeId} {pos : String} {aft : Array Edge} {gd : Option (Nat × Bool)} :
    execOp ρ ⟨d, .call ⟨.builtin b, args, ts⟩, ty, pos, aft, gd⟩ = builtin b ts ty (args.map fun | .const _ => true | _ => false) vs.toArray := by
  subst hv
  have : args.map ρ = (args.toList.map ρ).toArray := by apply Array.ext'; simp
  rw [← this]; rfl
theorem Vs_nil_inv {vs : List Value} (h : Vs β [] = some vs) : vs = [] := (Option.some.inj h).symm
theorem min_ok {args : Array Operand} {ts : Array TypeId} {xs : List A} {a : A} (h : minmax .min xs = some a) (hv : Vs β xs = some (args.toList.map ρ)) : Pu P β (.call ⟨.builtin .min, args, ts⟩) ρ a := by
  unfold minmax at h
  split at h
  · rename_i k x k' y e
    cases Option.some.inj h
    obtain ⟨v1, r1, g1, g2, g3⟩ := Vs_cons hv
    obtain ⟨v2, r2, g4, g5, rfl⟩ := Vs_cons g2
    have := Vs_nil_inv g5; subst this
    refine ⟨_, rfl, fun w _ _ _ _ _ => ?_⟩
    rw [run_bi g3, V_i g1, V_i g4, cn_eq, lsI_eq]
    simp [builtin, Builtin.min_, Builtin.min2]
  · rename_i e; cases e
  · rename_i k x k' y k'' z e
    cases Option.some.inj h
    obtain ⟨v1, r1, g1, g2, g3⟩ := Vs_cons hv
    obtain ⟨v2, r2, g4, g5, rfl⟩ := Vs_cons g2
    obtain ⟨v3, r3, g6, g7, rfl⟩ := Vs_cons g5
    have := Vs_nil_inv g7; subst this
    refine ⟨_, rfl, fun w _ _ _ _ _ => ?_⟩
    rw [run_bi g3, V_i g1, V_i g4, V_i g6, cn_eq, cn_eq, lsI_eq, lsI_eq]
    simp [builtin, Builtin.min_, Builtin.min2]
  all_goals first | (cases h; done) | (rename_i e; cases e; done) | (rename_i e _; cases e; done)
theorem max_ok {args : Array Operand} {ts : Array TypeId} {xs : List A} {a : A} (h : minmax .max xs = some a) (hv : Vs β xs = some (args.toList.map ρ)) : Pu P β (.call ⟨.builtin .max, args, ts⟩) ρ a := by
  unfold minmax at h
  split at h
  · rename_i e; cases e
  · rename_i k x k' y e
    cases Option.some.inj h
    obtain ⟨v1, r1, g1, g2, g3⟩ := Vs_cons hv
    obtain ⟨v2, r2, g4, g5, rfl⟩ := Vs_cons g2
    have := Vs_nil_inv g5; subst this
    refine ⟨_, rfl, fun w _ _ _ _ _ => ?_⟩
    rw [run_bi g3, V_i g1, V_i g4, cn_eq, lsI_eq]
    simp [builtin, Builtin.max_, Builtin.max2]
  · rename_i e; cases e
  · rename_i k x k' y k'' z e
    cases Option.some.inj h
    obtain ⟨v1, r1, g1, g2, g3⟩ := Vs_cons hv
    obtain ⟨v2, r2, g4, g5, rfl⟩ := Vs_cons g2
    obtain ⟨v3, r3, g6, g7, rfl⟩ := Vs_cons g5
    have := Vs_nil_inv g7; subst this
    refine ⟨_, rfl, fun w _ _ _ _ _ => ?_⟩
    rw [run_bi g3, V_i g1, V_i g4, V_i g6, cn_eq, cn_eq, lsI_eq, lsI_eq]
    simp [builtin, Builtin.max_, Builtin.max2]
  all_goals first | (cases h; done) | (rename_i e; cases e; done) | (rename_i e _; cases e; done)
theorem cap_ok {args : Array Operand} {ts : Array TypeId} {xs : List A} {a : A} {e : TypeId} (hu : bd ts[0]? (slB P) = some e) (h : minmax .cap xs = some a) (hv : Vs β xs = some (args.toList.map ρ)) : Pu P β (.call ⟨.builtin .cap, args, ts⟩) ρ a := by
  obtain ⟨t0, ht, hu⟩ := bd_some hu
  have hu := slB_ok hu
  unfold minmax at h
  split at h
  · contradiction
  · contradiction
  · contradiction
  · contradiction
  · cases Option.some.inj h
    obtain ⟨v1, r1, g1, g2, g3⟩ := Vs_cons hv
    have := Vs_nil_inv g2; subst this
    obtain ⟨p, hp, rfl⟩ := V_l g1
    refine ⟨_, rfl, fun w _ _ _ _ _ => ?_⟩
    rw [run_bi g3]
    simp [builtin, Builtin.cap_, ht, run_underlying hu, goInt]
  · cases Option.some.inj h
    obtain ⟨v1, r1, g1, g2, g3⟩ := Vs_cons hv
    have := Vs_nil_inv g2; subst this
    have := V_k g1; subst this
    refine ⟨_, rfl, fun w _ _ _ _ _ => ?_⟩
    rw [run_bi g3]
    simp [builtin, Builtin.cap_, ht, run_underlying hu, goInt]
  · cases h
theorem pu_ok {o : Op} {g : Bx Ac} {a : A} (h : puD P c o = some g) (hg : g.f st m = some a) (hρ : ∀ x ∈ o.operands, ∀ a, ev c x st m = some a → V β a = some (ρ x)) : Pu P β o ρ a := by
  unfold puD at h
  split at h
  · 
    cases Option.some.inj h
    exact ⟨_, hρ _ (by simp [Op.operands]) a (by unfold ev; rw [Bx.co]; exact hg), fun w _ _ _ _ _ => rfl⟩
  · cases Option.some.inj h
    exact ⟨_, hρ _ (by simp [Op.operands]) a (by unfold ev; rw [Bx.co]; exact hg), fun w _ _ _ _ _ => rfl⟩
  · 
    rename_i x y z
    cases Option.some.inj h
    obtain ⟨b, h1, hg⟩ := bd_some hg
    obtain ⟨t, h2, hg⟩ := bd_some hg
    have := A.B_eq h2; subst this
    have hx := V_b (hρ x (by simp [Op.operands]) _ h1)
    cases t with
    | true => exact ⟨_, hρ y (by simp [Op.operands]) a hg, fun w _ _ _ _ _ => by simp [execOp, hx, asBool]⟩
    | false => exact ⟨_, hρ z (by simp [Op.operands]) a hg, fun w _ _ _ _ _ => by simp [execOp, hx, asBool]⟩
  · 
    rename_i T ps
    cases Option.some.inj h
    obtain ⟨h0, hg⟩ := gu_some hg
    obtain ⟨z, h1, hg⟩ := bd_some hg
    obtain ⟨l, h2, hg⟩ := bd_some hg
    obtain ⟨h3, hg⟩ := gu_some hg
    obtain ⟨cs, h4, hg⟩ := bd_some hg
    cases Option.some.inj hg
    obtain ⟨i, zv, k1, k2, k3⟩ := zeroB_ok (β := β) h1
    obtain ⟨p1, p2⟩ := parts_ok (β := β) (ρ := ρ) h2 (fun p hp => hρ p.2 (by simp only [Op.operands, List.mem_toArray, List.mem_map]; exact ⟨p, hp, rfl⟩))
    rw [List.all_eq_true] at h3
    obtain ⟨rs, r1, r2⟩ := build_ok (β := β) h0 k1 k2 k3 (pv := ps.toList.map fun p => (p.1, ρ p.2)) h4 (by rw [List.map_map, p1]; rfl) (by rw [List.map_map]; exact p2) (fun p hp => A.ok_k (h3 p hp))
    refine ⟨.agg rs.toArray, by unfold V; rw [r1]; rfl, fun w _ _ _ _ _ => ?_⟩
    have e : (ps.map fun (x : Nat × Operand) => (x.1, ρ x.2)) = (ps.toList.map fun p => (p.1, ρ p.2)).toArray := by apply Array.ext'; simp
    have := r2 w
    rw [← e] at this
    simp only [execOp, Sem.run_bind]
    rw [this]; rfl
  · 
    rename_i x
    cases Option.some.inj h
    obtain ⟨v, h1, hg⟩ := bd_some hg
    obtain ⟨h2, hg⟩ := gu_some hg
    cases Option.some.inj hg
    have hx := hρ x (by simp [Op.operands]) _ h1
    refine ⟨_, hx, fun w _ _ _ _ _ => ?_⟩
    unfold okN at h2
    split at h2
    · obtain ⟨p, _, e⟩ := V_p hx
      simp only [execOp, e]; rfl
    · obtain ⟨p, _, e⟩ := V_f hx
      simp only [execOp, e]; rfl
    · cases h2
  · 
    rename_i op T x y yT
    cases Option.some.inj h
    obtain ⟨a1, h1, hg⟩ := bd_some hg
    obtain ⟨b1, h2, hg⟩ := bd_some hg
    obtain ⟨h3, hg⟩ := gu_some hg
    obtain ⟨v, k1, k2⟩ := run_bin hg (hρ x (by simp [Op.operands]) _ h1) (hρ y (by simp [Op.operands]) _ h2) h3
    refine ⟨v, k1, fun w _ _ _ _ _ => ?_⟩
    have := k2 w
    simp only [execOp]
    simp only [Sem.run_bind] at this ⊢
    rw [this]; rfl
  · 
    rename_i T x
    cases Option.some.inj h
    obtain ⟨b, h1, hg⟩ := bd_some hg
    obtain ⟨t, h2, hg⟩ := bd_some hg
    have := A.B_eq h2; subst this
    cases Option.some.inj hg
    have hx := V_b (hρ x (by simp [Op.operands]) _ h1)
    exact ⟨_, rfl, fun w _ _ _ _ _ => by simp [execOp, hx, Op.unary]⟩
  · 
    rename_i T x
    cases Option.some.inj h
    obtain ⟨b, h1, hg⟩ := bd_some hg
    obtain ⟨q, h2, hg⟩ := bd_some hg
    have := A.I_eq h2; subst this
    cases Option.some.inj hg
    have hx := V_i (hρ x (by simp [Op.operands]) _ h1)
    refine ⟨_, rfl, fun w _ _ _ _ _ => ?_⟩
    rw [wr_eq]
    simp [execOp, hx, Op.unary, Op.intArith]
    try rfl
  · 
    rename_i fn x y
    cases Option.some.inj h
    obtain ⟨h1, hg⟩ := gu_some hg
    obtain ⟨l, h2, hg⟩ := bd_some hg
    cases Option.some.inj hg
    have := evs_ok (β := β) (ρ := ρ) h2 fun z hz => hρ z (by simp only [Op.operands, Array.mem_append]; exact .inr (by simpa using hz))
    have hx : x = #[] := by rw [← Array.toList_eq_nil_iff]; exact List.isEmpty_iff.1 h1
    subst hx
    refine ⟨.func (.func fn) #[] (y.toList.map ρ).toArray, by unfold V; rw [this]; rfl, fun w _ _ _ _ _ => ?_⟩
    simp [execOp, Instr.makeFunc]
    apply Array.ext'
    simp
  · 
    rename_i T x lo hi
    cases Option.some.inj h
    obtain ⟨s, h1, hg⟩ := bd_some hg
    obtain ⟨av, h2, hg⟩ := bd_some hg
    obtain ⟨hv, h3, hg⟩ := bd_some hg
    have hx := hρ x (by simp [Op.operands]) _ h1
    have hlo := evO_ok (ρ := ρ) h2 (fun y hy => hρ y (by simp [Op.operands, hy]))
    have hhi := evO_ok (ρ := ρ) h3 (fun y hy => hρ y (by simp [Op.operands, hy]))
    obtain ⟨v, k1, k2⟩ := slice_ok hg hx hlo hhi
    refine ⟨v, k1, fun w _ _ _ _ _ => ?_⟩
    have := k2 w
    simp only [execOp, Sem.run_bind, Option.map_none]
    rw [this]; rfl
  · 
    rename_i T x f
    cases Option.some.inj h
    obtain ⟨s, h1, hg⟩ := bd_some hg
    obtain ⟨q, h2, hg⟩ := bd_some hg
    obtain ⟨fo, h3, hg⟩ := bd_some hg
    obtain ⟨z, h4, hg⟩ := bd_some hg
    obtain ⟨h5, hg⟩ := gu_some hg
    cases Option.some.inj hg
    have := A.P_eq h2; subst this
    obtain ⟨p, hp, hx⟩ := V_p (hρ x (by simp [Op.operands]) _ h1)
    obtain ⟨fs, fx, g1, g2, g3, g4⟩ := fldB_ok h3
    obtain ⟨j, g5, g6⟩ := sizeB_ok h4
    have h5 := Nat.le_of_ble_eq_true h5
    refine ⟨.pointer (some (p.at (q.2 + fo.1))), by show (β q.1).map _ = _; rw [hp]; rfl, fun w _ _ _ _ _ => ?_⟩
    have es : (sizeOf fx.type).run P w = .ok z w := by simp [sizeOf, typeInfo, g4, g5, g6]
    have ea : (p.at q.2).add fx.offset = p.at (q.2 + fo.1) := by rw [g3]; exact Pl.at_add p q.2 fo.1
    simp [execOp, hx, Instr.fieldAt, run_underlying g1, g2, Instr.sureAddr, fieldPlace, es, ea, show z ≠ 0 by omega]
  · 
    rename_i T x f
    cases Option.some.inj h
    obtain ⟨s, h1, hg⟩ := bd_some hg
    obtain ⟨l, h2, hg⟩ := bd_some hg
    obtain ⟨fo, h3, hg⟩ := bd_some hg
    obtain ⟨ag, h4, hg⟩ := bd_some hg
    have := A.G_eq h2; subst this
    obtain ⟨us, hus, hx⟩ := V_g (hρ x (by simp [Op.operands]) _ h1)
    obtain ⟨fs, fx, g1, g2, g3, g4⟩ := fldB_ok h3
    have hagg := isAgg_ok h4
    rw [← g4] at hagg
    cases ag with
    | true =>
      obtain ⟨z, h5, hg⟩ := bd_some (show bd (sizeB P fo.2) (fun sz => bd (getAt sz fo.1 l) fun l => some (.g l)) = some a from hg)
      obtain ⟨r, h6, hg⟩ := bd_some hg
      cases Option.some.inj hg
      obtain ⟨j, g5, g6⟩ := sizeB_ok h5
      obtain ⟨l1, l2⟩ := getAt_eq h6
      have hr : Vs β r = some ((us.drop fo.1).take z) := by rw [l2]; exact Vs_take _ (Vs_drop _ hus)
      refine ⟨.agg ((us.drop fo.1).take z).toArray, by unfold V; rw [hr]; rfl, fun w _ _ _ _ _ => ?_⟩
      have es : (sizeOf fx.type).run P w = .ok z w := by simp [sizeOf, typeInfo, g4, g5, g6]
      have e2 : us.toArray.extract fo.1 (fo.1 + z) = ((us.drop fo.1).take z).toArray := by simp [List.extract_eq_take_drop]
      simp [execOp, hx, Instr.field, run_underlying g1, g2, asAgg, part, hagg w, es, g3]
    | false =>
      have hg : get1 fo.1 l = some a := hg
      rw [get1_eq] at hg
      obtain ⟨v, k1, k2⟩ := Vs_get hus hg
      refine ⟨v, k2, fun w _ _ _ _ _ => ?_⟩
      simp [execOp, hx, Instr.field, run_underlying g1, g2, asAgg, part, hagg w, g3, k1]
  · 
    rename_i T x y
    cases Option.some.inj h
    obtain ⟨s, h1, hg⟩ := bd_some hg
    obtain ⟨b, h2, hg⟩ := bd_some hg
    obtain ⟨i, h3, hg⟩ := bd_some hg
    obtain ⟨k, e⟩ := A.N_eq h3
    rw [e] at h2
    have hx := hρ x (by simp [Op.operands]) _ h1
    have hy := V_i (hρ y (by simp [Op.operands]) _ h2)
    rw [Bx.co] at hg
    obtain ⟨v, k1, k2⟩ := idx_ok hg hx k
    refine ⟨v, k1, fun w _ _ _ _ _ => ?_⟩
    have := k2 w
    simp only [execOp, hy, Sem.run_bind]
    rw [this]; rfl
  · 
    rename_i T x y
    cases Option.some.inj h
    obtain ⟨h0u, hg⟩ := gu_some hg
    have h0u := strB_ok h0u
    obtain ⟨s, h1, hg⟩ := bd_some hg
    obtain ⟨l, h2, hg⟩ := bd_some hg
    obtain ⟨b, h3, hg⟩ := bd_some hg
    obtain ⟨i, h4, hg⟩ := bd_some hg
    obtain ⟨ch, h5, hg⟩ := bd_some hg
    cases Option.some.inj hg
    obtain ⟨k, e⟩ := A.N_eq h4
    rw [e] at h3
    rw [A.S_eq h2] at h1
    obtain ⟨hl, hx⟩ := V_s (hρ x (by simp [Op.operands]) _ h1)
    have hy := V_i (hρ y (by simp [Op.operands]) _ h3)
    refine ⟨_, rfl, fun w _ _ _ _ _ => ?_⟩
    have hlt : i < l.length := (List.getElem?_eq_some_iff.1 h5).1
    have hc : Nat.ble ch 255 = true := by unfold okS at hl; rw [List.all_eq_true] at hl; exact hl ch (List.mem_of_getElem? h5)
    have hc := Nat.le_of_ble_eq_true hc
    have e5 : (txt l)[i]? = some (UInt8.ofNat ch) := by
      rw [getElem?_pos (txt l) i (by rw [txt_size]; exact hlt)]
      congr 1
      show (txt l).data[i]'_ = _
      unfold txt
      have : l[i]'hlt = ch := by have := List.getElem?_eq_some_iff.1 h5; exact this.2
      simp [this]
    simp only [execOp, hx, hy]
    simp [Instr.index, asIntOf, h0u, e5]
    omega
  · 
    rename_i x i
    cases Option.some.inj h
    obtain ⟨s, h1, hg⟩ := bd_some hg
    obtain ⟨l, h2, hg⟩ := bd_some hg
    rw [A.T_eq h2] at h1
    obtain ⟨us, hus, hx⟩ := V_t (hρ x (by simp [Op.operands]) _ h1)
    rw [get1_eq] at hg
    obtain ⟨v, k1, k2⟩ := Vs_get hus hg
    refine ⟨v, k2, fun w _ _ _ _ _ => ?_⟩
    simp [execOp, hx, Instr.extract, k1]
  · 
    rename_i args ts
    cases Option.some.inj h
    obtain ⟨xs, h1, hg⟩ := bd_some hg
    have hv := evs_ok (β := β) (ρ := ρ) h1 (fun x hx => hρ x (by simpa [Op.operands, Call.operands] using hx))
    exact min_ok hg hv
  · rename_i args ts
    cases Option.some.inj h
    obtain ⟨xs, h1, hg⟩ := bd_some hg
    have hv := evs_ok (β := β) (ρ := ρ) h1 (fun x hx => hρ x (by simpa [Op.operands, Call.operands] using hx))
    exact max_ok hg hv
  · rename_i args ts
    split at h
    · rename_i e hu
      cases Option.some.inj h
      obtain ⟨xs, h1, hg⟩ := bd_some hg
      have hv := evs_ok (β := β) (ρ := ρ) h1 (fun x hx => hρ x (by simpa [Op.operands, Call.operands] using hx))
      exact cap_ok hu hg hv
    · cases h
  · cases h
end
end Go.Ev
namespace Go.Ev
open Go.RowKit
section
variable {P : Program} {β : Be} {c : Lc} {st : List A} {m : Tr A} {ρ : Operand → Value} {h : Tr B} {w : World}

theorem Ob.cell (k : Ob β h w) {q : Po} {b : B} {l : List A} (hq : h.get q = some b) (hl : b.o.D = some l) {p : Pl} (hp : β q = some p) :
    ∃ vs, Vs β l = some vs ∧ (∀ i v, vs[i]? = some v → w.cell? (p.at i) = some v) ∧ (∃ T n, w.shape? p.blk = some (T, n) ∧ n = p.size) := by
  obtain ⟨p', o, h1, h2, h3⟩ := k q b hq
  rw [hp] at h1; cases h1
  rcases O.D_eq hl with ⟨T, op, e⟩ | ⟨T, e⟩
  · rw [e] at h3
    obtain ⟨cs, vs, rfl, k2, k3, k4, _⟩ := h3
    exact ⟨vs, k3, fun i v hv => by simp [World.cell?, Pl.at, h2, k4 i v hv], T, cs.size, by simp [World.shape?, h2], k2⟩
  · rw [e] at h3
    obtain ⟨cs, U, fr, vs, rfl, k2, k3, k4, _⟩ := h3
    exact ⟨vs, k3, fun i v hv => by simp [World.cell?, Pl.at, h2, k4 i v hv], U, cs.size, by simp [World.shape?, h2], k2⟩
theorem cellsOf_ok (k : Ob β h w) {n : Po} {off len : Nat} {r : List A} (hr : cellsOf h n off len = some r) {p : Pl} (hp : β n = some p) :
    r.length = len ∧ ∃ vs, Vs β r = some vs ∧ ∀ j v, vs[j]? = some v → w.cell? ((p.at off).add j) = some v := by
  obtain ⟨b, h1, hr⟩ := bd_some hr
  obtain ⟨l, h2, hr⟩ := bd_some hr
  obtain ⟨vs, k1, k2, _⟩ := k.cell h1 h2 hp
  obtain ⟨l1, l2⟩ := getAt_eq hr
  refine ⟨by rw [l2, List.length_take, List.length_drop]; omega, (vs.drop off).take len, by rw [l2]; exact Vs_take _ (Vs_drop _ k1), fun j v hv => ?_⟩
  rw [Pl.at_add]
  apply k2
  rw [List.getElem?_take] at hv
  split at hv
  · rw [List.getElem?_drop] at hv; exact hv
  · cases hv
theorem loadV_ok (k : Ob β h w) {T : TypeId} {n : Po} {off : Nat} {a : A} (ha : (loadV P T).f h n off = some a) {p : Pl} (hp : β n = some p) :
    ∃ v, V β a = some v ∧ (loadVar T (p.at off)).run P w = .ok v w := by
  unfold loadV at ha
  split at ha
  · rename_i sz h1 h2
    obtain ⟨r, h3, ha⟩ := bd_some (show bd (cellsOf h n off sz) (fun l => some (.g l)) = some a from ha)
    cases Option.some.inj ha
    obtain ⟨l1, vs, l2, l3⟩ := cellsOf_ok k h3 hp
    obtain ⟨j, g5, g6⟩ := sizeB_ok h2
    refine ⟨.agg vs.toArray, by unfold V; rw [l2]; rfl, ?_⟩
    have hl := run_loadCells_list (P := P) w (p.at off) vs l3
    rw [Vs_len l2, l1] at hl
    have es : (sizeOf T).run P w = .ok sz w := by simp [sizeOf, typeInfo, g5, g6]
    simp only [loadVar, Sem.run_bind, isAgg_ok h1 w, Result.andThen_ok, if_true, es, hl, Sem.run_pure]
  · rename_i h2 h1
    obtain ⟨b, h3, ha⟩ := bd_some (show bd (h.get n) (fun b => bd b.o.D fun c => get1 off c) = some a from ha)
    obtain ⟨l, h4, ha⟩ := bd_some ha
    rw [get1_eq] at ha
    obtain ⟨vs, k1, k2, _⟩ := k.cell h3 h4 hp
    obtain ⟨v, k3, k4⟩ := Vs_get k1 ha
    refine ⟨v, k4, ?_⟩
    have := k2 off v k3
    simp [loadVar, isAgg_ok h1 w, this]
  · cases ha

def Me1 (P : Program) (β : Be) (w : World) (o : Op) (ρ : Operand → Value) (a : A) : Prop := ∃ v, V β a = some v ∧ ∀ d ty pos aft gd, (execOp ρ ⟨d, o, ty, pos, aft, gd⟩).run P w = .ok (.value v) w
theorem findE_ok {kt : TypeId} {dk : TypeDesc} (hu : P.underlying kt = some dk) (hd : (∃ k, dk = .int k) ∨ dk = .string) {key : A} {vk : Value} (hk : V β key = some vk) : ∀ {es : List (A × A × Nat)} {ents : List MapEntry} {i : Nat} {r : Option (Nat × A)},
    findE (eq1 P kt).f key es i = some r → En β es ents → ∃ r', Instr.findNow dk vk ents i = some r' ∧ (r = none ∧ r' = none ∨ ∃ j a v, r = some (j, a) ∧ r' = some (j, v) ∧ V β a = some v)
  | [], [], i, r, h, _ => by cases Option.some.inj h; exact ⟨none, rfl, .inl ⟨rfl, rfl⟩⟩
  | (k, v, b) :: es, e :: ents, i, r, h, ⟨h1, h2, h3, h4⟩ => by
    obtain ⟨t, g1, h⟩ := bd_some (show bd ((eq1 P kt).f key k) (fun t => cn t (some (some (i, v))) (findE (eq1 P kt).f key es (Nat.succ i))) = some r from h)
    have hs : Instr.sameNow dk vk e.key = some t := by
      unfold eq1 at g1
      rw [hu] at g1
      rcases hd with ⟨kk, rfl⟩ | rfl
      · replace g1 : eqIn key k = some t := g1
        unfold eqIn at g1
        split at g1
        · rw [cn_eq] at g1
          split at g1
          · rename_i hs
            cases Option.some.inj g1
            rw [V_i hk, V_i h1, sameK_eq hs, eqI_eq]
            simp [Instr.sameNow]
          · cases g1
        · cases g1
      · replace g1 : eqSt key k = some t := g1
        unfold eqSt at g1
        split at g1
        · cases Option.some.inj g1
          obtain ⟨s1, rfl⟩ := V_s hk
          obtain ⟨s2, e2⟩ := V_s h1
          rw [e2, ← txt_beq s1 s2]
          rfl
        · cases g1
    unfold Instr.findNow
    rw [hs]
    cases t with
    | true => cases Option.some.inj (show some (some (i, v)) = some r from h); exact ⟨_, rfl, .inr ⟨i, v, _, rfl, rfl, h2⟩⟩
    | false => exact findE_ok hu hd hk (show findE (eq1 P kt).f key es (i + 1) = some r from h) h4
  | [], _ :: _, _, _, _, h => h.elim
  | _ :: _, [], _, _, _, h => h.elim
theorem mapD_ok {T : TypeId} {q : Bx (A → A → Option Bool) × TypeId} (h : mapD P T = some q) : ∃ kt dk, P.underlying T = some (.map kt q.2) ∧ P.underlying kt = some dk ∧ ((∃ k, dk = .int k) ∨ dk = .string) ∧ q.1 = eq1 P kt := by
  obtain ⟨d, h1, h⟩ := bd_some h
  split at h
  · rename_i kt e
    split at h
    · rename_i k hu; cases Option.some.inj h; exact ⟨kt, _, h1, hu, .inl ⟨k, rfl⟩, rfl⟩
    · rename_i hu; cases Option.some.inj h; exact ⟨kt, _, h1, hu, .inr rfl, rfl⟩
    · cases h
  · cases h
theorem checkKey_ok {kt : TypeId} {dk : TypeDesc} (hu : P.underlying kt = some dk) (hd : (∃ k, dk = .int k) ∨ dk = .string) (e : Bool) (v : Value) : (Instr.checkKey e 10000 kt v).run P w = .ok () w := by
  obtain ⟨d, hd'⟩ : ∃ d, 10000 = d + 1 := ⟨9999, rfl⟩
  rw [hd']
  unfold Instr.checkKey
  simp only [Sem.run_bind, run_underlying hu, Result.andThen_ok]
  rcases hd with ⟨k, rfl⟩ | rfl <;> rfl
theorem lookV_ok {T : TypeId} {r : Option (Nat × A)} {r' : Option (Nat × Value)} {a : A} (h : lookV P T r = some a)
    (hr : r = none ∧ r' = none ∨ ∃ j a v, r = some (j, a) ∧ r' = some (j, v) ∧ V β a = some v) : ∃ v, V β a = some v ∧ r.isSome = r'.isSome ∧ ((r' = none ∧ ∀ w, (zeroValue T).run P w = .ok v w) ∨ ∃ j, r' = some (j, v)) := by
  rcases hr with ⟨rfl, rfl⟩ | ⟨j, a', v, rfl, rfl, hv⟩
  · obtain ⟨i, k1, h⟩ := bd_some (show bd (P.info? T) (fun i => bd i.zero fun v => some (ofV v)) = some a from h)
    obtain ⟨zv, k2, h⟩ := bd_some h
    cases Option.some.inj h
    exact ⟨zv, V_ofV β zv, rfl, .inl ⟨rfl, fun w => by simp [zeroValue, typeInfo, k1, k2]⟩⟩
  · cases Option.some.inj (show some a' = some a from h)
    exact ⟨v, hv, rfl, .inr ⟨j, rfl⟩⟩
theorem lookup_ok (hm : Ob β h w) {T : TypeId} {x y : Operand} {ok : Bool} {g : Bx Me} {a : A} (hg : meD P c (.lookup T x y ok) = some g) (ha : g.f st m h = some a)
    (hρ : ∀ z ∈ (Op.lookup T x y ok).operands, ∀ a, ev c z st m = some a → V β a = some (ρ z)) : Me1 P β w (.lookup T x y ok) ρ a := by
  unfold meD at hg
  simp only at hg
  split at hg
  · cases hg
  · rename_i q hq
    obtain ⟨kt, dk, u1, u2, u3, u4⟩ := mapD_ok hq
    obtain ⟨eqf, et⟩ := q
    simp only at u1 u4
    subst u4
    cases Option.some.inj hg
    obtain ⟨a1, h1, ha⟩ := bd_some ha
    obtain ⟨n, h2, ha⟩ := bd_some ha
    obtain ⟨k, h3, ha⟩ := bd_some ha
    obtain ⟨b, h4, ha⟩ := bd_some ha
    rw [A.M_eq h2] at h1
    obtain ⟨p, hp, hx⟩ := V_m (hρ x (by simp [Op.operands]) _ h1)
    have hy := hρ y (by simp [Op.operands]) _ h3
    obtain ⟨p', o, g1, g2, g3⟩ := hm n b h4
    rw [hp] at g1; cases g1
    split at ha
    · rename_i es ck e
      obtain ⟨r, h5, ha⟩ := bd_some ha
      obtain ⟨v, h6, ha⟩ := bd_some ha
      cases Option.some.inj ha
      rw [e] at g3
      obtain ⟨ents, rfl, g4⟩ := g3
      obtain ⟨r', k1, k2⟩ := findE_ok u2 u3 hy h5 g4
      obtain ⟨vv, k3, k4, k5⟩ := lookV_ok h6 k2
      have hrun : (Instr.lookup T (ρ x) (ρ y) ok).run P w = .ok (if ok then .tuple #[vv, .bool r'.isSome] else vv) w := by
        unfold Instr.lookup
        have e2 : (getObj p.blk).run P w = .ok (.map ents ck) w := by simp [getObj, Sem.run, g2]
        have e3 : (Instr.findKey kt (ρ y) ents.toList).run P w = .ok r' w := by
          unfold Instr.findKey
          simp only [Sem.run_bind, run_underlying u2, Result.andThen_ok, k1]
          rfl
        simp only [Sem.run_bind, run_underlying u1, Result.andThen_ok, hx, e2, checkKey_ok u2 u3, e3, Sem.run_pure]
        rcases k5 with ⟨rfl, k5⟩ | ⟨j, rfl⟩
        · simp only [Sem.run_bind, show (zeroValue et).run P w = .ok vv w from k5 w, Result.andThen_ok]
          cases ok <;> rfl
        · cases ok <;> rfl
      refine ⟨if ok then .tuple #[vv, .bool r'.isSome] else vv, ?_, fun d ty pos aft gd => ?_⟩
      · rw [cn_eq]
        cases ok with
        | true =>
          have := Vs_mk k3 (Vs_mk (β := β) (a := .b r.isSome) (v := .bool r.isSome) rfl (show Vs β [] = some [] from rfl))
          simp only [if_true]
          rw [← k4]
          unfold V; rw [this]; rfl
        | false => exact k3
      · simp only [execOp, Sem.run_bind]
        rw [hrun]; rfl
    · cases ha
theorem len_ok (hm : Ob β h w) {args : Array Operand} {ts : Array TypeId} {xs : List A} {x a : A} (hx : xs = [x]) (ha : (lenD P ts).f h x = some a) (hv : Vs β xs = some (args.toList.map ρ)) : Me1 P β w (.call ⟨.builtin .len, args, ts⟩) ρ a := by
  subst hx
  obtain ⟨v1, r1, g1, g2, g3⟩ := Vs_cons hv
  have := Vs_nil_inv g2; subst this
  unfold lenD at ha
  split at ha
  · rename_i hu
    obtain ⟨t0, ht, hu⟩ := bd_some hu
    obtain ⟨l, h1, ha⟩ := bd_some (show bd x.S (fun l => some (num l.length)) = some a from ha)
    cases Option.some.inj ha
    rw [A.S_eq h1] at g1
    obtain ⟨_, rfl⟩ := V_s g1
    refine ⟨_, rfl, fun d ty pos aft gd => ?_⟩
    rw [run_bi g3]
    simp [builtin, Builtin.len_, ht, run_underlying hu, goInt, txt_size]
  · rename_i e hu
    obtain ⟨t0, ht, hu⟩ := bd_some hu
    obtain ⟨k, h1, ha⟩ := bd_some (show bd (lenA x) (fun k => some (num k)) = some a from ha)
    cases Option.some.inj ha
    have : ∃ b c, v1 = .slice b k c := by
      unfold lenA at h1
      split at h1
      · cases Option.some.inj h1; rw [V_k g1]; exact ⟨_, _, rfl⟩
      · cases Option.some.inj h1; obtain ⟨p, _, rfl⟩ := V_l g1; exact ⟨_, _, rfl⟩
      · cases Option.some.inj h1; obtain ⟨p, _, _, rfl⟩ := V_o g1; exact ⟨_, _, rfl⟩
      · cases h1
    obtain ⟨b, c, rfl⟩ := this
    refine ⟨_, rfl, fun d ty pos aft gd => ?_⟩
    rw [run_bi g3]
    simp [builtin, Builtin.len_, ht, run_underlying hu, goInt]
  · rename_i kt e hu
    obtain ⟨t0, ht, hu⟩ := bd_some hu
    obtain ⟨q, h1, ha⟩ := bd_some (show bd x.M (fun q => bd (h.get q) fun b => (match b.o with | .m es _ => some (num es.length) | _ => none)) = some a from ha)
    obtain ⟨b, h2, ha⟩ := bd_some ha
    rw [A.M_eq h1] at g1
    obtain ⟨p, hp, rfl⟩ := V_m g1
    obtain ⟨p', o, k1, k2, k3⟩ := hm q b h2
    rw [hp] at k1; cases k1
    split at ha
    · rename_i es ck e
      cases Option.some.inj ha
      rw [e] at k3
      obtain ⟨ents, rfl, k4⟩ := k3
      have hl : es.length = ents.size := by
        have : ∀ {es : List (A × A × Nat)} {en : List MapEntry}, En β es en → es.length = en.length := by
          intro es
          induction es with
          | nil => intro en h; cases en with
            | nil => rfl
            | cons _ _ => exact h.elim
          | cons x es ih => intro en h; cases en with
            | nil => exact h.elim
            | cons y en => simp [ih h.2.2.2]
        rw [this k4]; simp
      refine ⟨_, rfl, fun d ty pos aft gd => ?_⟩
      rw [run_bi g3]
      simp [builtin, Builtin.len_, ht, run_underlying hu, goInt, getObj, Sem.run, k2, hl]
    · cases ha
  · cases ha
end
end Go.Ev
namespace Go.Ev
open Go.RowKit
section
variable {P : Program} {β : Be} {c : Lc} {st : List A} {m : Tr A} {ρ : Operand → Value} {h : Tr B} {w : World}
theorem find_ok {e : Nat} : ∀ {es : List (A × A × Nat)} {ents : List MapEntry} {y : A × A × Nat}, En β es ents → es.find? (fun x => Nat.beq x.2.2 e) = some y → ∃ en, ents.find? (fun x => x.born == e) = some en ∧ V β y.1 = some en.key ∧ V β y.2.1 = some en.val
  | [], [], y, _, h => by cases h
  | (k, v, b) :: es, en :: ents, y, ⟨h1, h2, h3, h4⟩, h => by
    rw [List.find?_cons] at h ⊢
    have hb : (en.born == e) = Nat.beq b e := by
      rw [h3]
      cases hh : Nat.beq b e with
      | true => have := Nat.eq_of_beq_eq_true hh; subst this; simp
      | false => rw [beq_eq_false_iff_ne]; intro e2; subst e2; rw [Nat.beq_refl] at hh; cases hh
    rw [hb]
    cases hh : Nat.beq b e with
    | true => rw [hh] at h; cases Option.some.inj h; exact ⟨en, rfl, h1, h2⟩
    | false => rw [hh] at h; exact find_ok h4 h
  | [], _ :: _, _, h, _ => h.elim
  | _ :: _, [], _, h, _ => h.elim
theorem entry_ok (hm : Ob β h w) {x : Operand} {g : Bx Me} {a : A} (hg : meD P c (.entry x) = some g) (ha : g.f st m h = some a)
    (hρ : ∀ z ∈ (Op.entry x).operands, ∀ a, ev c z st m = some a → V β a = some (ρ z)) : Me1 P β w (.entry x) ρ a := by
  unfold meD at hg
  simp only at hg
  cases Option.some.inj hg
  obtain ⟨a1, h1, ha⟩ := bd_some ha
  obtain ⟨q, h2, ha⟩ := bd_some ha
  obtain ⟨h0, ha⟩ := gu_some ha
  obtain ⟨b, h3, ha⟩ := bd_some ha
  have h0 := Nat.eq_of_beq_eq_true h0
  rw [A.P_eq h2] at h1
  obtain ⟨p, hp, hx⟩ := V_p (hρ x (by simp [Op.operands]) _ h1)
  obtain ⟨p', o, k1, k2, k3⟩ := hm q.1 b h3
  rw [hp] at k1; cases k1
  split at ha
  · rename_i n since e seen last eb
    rw [eb] at k3
    obtain ⟨hb0, pq, g1, rfl⟩ := k3
    obtain ⟨d, h4, ha⟩ := bd_some ha
    obtain ⟨p2, o2, g2, g3, g4⟩ := hm n d h4
    rw [g1] at g2; cases g2
    split at ha
    · rename_i es ck ed
      obtain ⟨h5, ha⟩ := gu_some ha
      obtain ⟨y, h6, ha⟩ := bd_some ha
      cases Option.some.inj ha
      have h5 := Nat.eq_of_beq_eq_true h5
      subst h5
      rw [ed] at g4
      obtain ⟨ents, rfl, g5⟩ := g4
      obtain ⟨en, f1, f2, f3⟩ := find_ok g5 h6
      have eat : p.at q.2 = ⟨p.blk, 0, none⟩ := by unfold Pl.at; rw [hb0, h0]
      refine ⟨.tuple #[en.key, en.val], by unfold V; rw [Vs_mk f2 (Vs_mk f3 rfl)]; rfl, fun d ty pos aft gd => ?_⟩
      have f1' : ents.find? (fun x => x.born == e) = some en := by rw [← Array.find?_toList]; exact f1
      simp [execOp, hx, eat, Instr.entry, getObj, Sem.run, k2, g3, f1']
    · cases ha
  · cases ha
def byteV (c : Nat) : Value := .int .u8 (c : Int)
theorem bytesU_ok : ∀ {l : List A} {bs : List Nat} {vs : List Value}, bytesU l = some bs → Vs β l = some vs → okS bs = true ∧ vs = bs.map byteV
  | [], bs, vs, h, k => by cases Option.some.inj h; cases Option.some.inj k; exact ⟨rfl, rfl⟩
  | a :: l, bs, vs, h, k => by
    obtain ⟨v, r, h1, h2, rfl⟩ := Vs_cons k
    obtain ⟨c, k0, h⟩ := bd_some (show bd (byU a) (fun c => gu (Nat.ble c 255) (bd (bytesU l) fun l => some (c :: l))) = some bs from h)
    obtain ⟨k1, h⟩ := gu_some h
    obtain ⟨q, k2, h⟩ := bd_some h
    cases Option.some.inj h
    obtain ⟨k3, rfl⟩ := bytesU_ok k2 h2
    refine ⟨by unfold okS at *; rw [List.all_cons, k1, k3]; rfl, ?_⟩
    unfold byU at k0
    split at k0
    · cases Option.some.inj k0; rw [List.map_cons, V_i h1]; rfl
    · cases k0
theorem fold_push : ∀ (bs : List Nat) (acc : ByteArray), (bs.map fun (c : Nat) => (c : Int)).foldl (fun r n => r.push (UInt8.ofNat n.toNat)) acc = ⟨acc.data ++ (bs.map UInt8.ofNat).toArray⟩
  | [], acc => by simp
  | b :: bs, acc => by
    rw [List.map_cons, List.foldl_cons, fold_push bs]
    apply ByteArray.ext
    simp [ByteArray.push]
theorem elems_ok (hm : Ob β h w) {sz : Nat} {x : A} {k : Nat} {vs : List A} {vx : Value} (h1 : lenA x = some k) (h2 : elems sz h x = some vs) (hx : V β x = some vx) :
    (vs = [] ∧ vx = .slice none 0 0 ∧ k = 0) ∨ ∃ a cap us, vx = .slice (some a) k cap ∧ Vs β vs = some us ∧ vs.length = k * sz ∧ ∀ j v, us[j]? = some v → w.cell? (a.add j) = some v := by
  unfold elems at h2
  split at h2
  · cases Option.some.inj h2
    cases Option.some.inj (show some 0 = some k from h1)
    exact .inl ⟨rfl, V_k hx, rfl⟩
  · cases Option.some.inj (show some _ = some k from h1)
    obtain ⟨p, hp, rfl⟩ := V_l hx
    obtain ⟨g1, us, g2, g3⟩ := cellsOf_ok hm h2 hp
    exact .inr ⟨_, _, us, rfl, g2, g1, g3⟩
  · cases Option.some.inj (show some _ = some k from h1)
    obtain ⟨p, hp, _, rfl⟩ := V_o hx
    obtain ⟨g1, us, g2, g3⟩ := cellsOf_ok hm h2 hp
    exact .inr ⟨_, _, us, rfl, g2, g1, g3⟩
  · cases h2
theorem conv_ok (hm : Ob β h w) {s d : TypeId} {x a : A} {vx : Value} (ha : (convD P s d).f h x = some a) (hx : V β x = some vx) : ∃ v, V β a = some v ∧ (convert s d vx).run P w = .ok v w := by
  unfold convD at ha
  split at ha
  · rename_i sd k h1 h2
    obtain ⟨q, h3, ha⟩ := bd_some (show bd x.I (fun q => some (.i k (wr k q.2))) = some a from ha)
    cases Option.some.inj ha
    rw [A.I_eq h3] at hx
    rw [V_i hx]
    refine ⟨_, rfl, ?_⟩
    rw [wr_eq]
    simp only [convert, Sem.run_bind, run_underlying h1, run_underlying h2, Result.andThen_ok]
    cases sd <;> rfl
  · rename_i e h1 h2
    split at ha
    · rename_i hu
      obtain ⟨k, h3, ha⟩ := bd_some (show bd (lenA x) (fun k => bd (elems 1 h x) fun l => gu (Nat.beq l.length k) (bd (bytesU l) fun l => some (.s l))) = some a from ha)
      obtain ⟨l, h4, ha⟩ := bd_some ha
      obtain ⟨h5, ha⟩ := gu_some ha
      obtain ⟨bs, h6, ha⟩ := bd_some ha
      cases Option.some.inj ha
      have h5 := Nat.eq_of_beq_eq_true h5
      rcases elems_ok hm h3 h4 hx with ⟨rfl, rfl, rfl⟩ | ⟨ad, cap, us, rfl, g1, g2, g3⟩
      · cases Option.some.inj (show some [] = some bs from h6)
        refine ⟨_, V_smk rfl, ?_⟩
        simp [convert, run_underlying h1, run_underlying h2, run_underlying hu, Conv.bytesToString]
        rfl
      · obtain ⟨k1, rfl⟩ := bytesU_ok h6 g1
        refine ⟨_, V_smk k1, ?_⟩
        have hl := run_loadCells_list (P := P) w ad _ g3
        rw [List.length_map] at hl
        have hbl : bs.length = k := by have := Vs_len g1; simp at this; omega
        rw [hbl] at hl
        have hb := run_bytesToString (P := P) w ad k cap (bs.map fun (c : Nat) => (c : Int)) (by rw [List.map_map]; exact hl)
        rw [fold_push] at hb
        simp only [convert, Sem.run_bind, run_underlying h1, run_underlying h2, run_underlying hu, Result.andThen_ok]
        rw [hb]
        congr 2
        apply ByteArray.ext
        simp [txt]
    · cases ha
  · rename_i h1 h2
    obtain ⟨l, h3, ha⟩ := bd_some (show bd x.S (fun l => some (.s l)) = some a from ha)
    cases Option.some.inj ha
    rw [A.S_eq h3] at hx
    obtain ⟨k, rfl⟩ := V_s hx
    refine ⟨_, V_smk k, ?_⟩
    simp only [convert, Sem.run_bind, run_underlying h1, run_underlying h2, Result.andThen_ok]
    rfl
  · rename_i t h1 h2
    obtain ⟨q, h3, ha⟩ := bd_some (show bd x.P (fun q => bd (h.get q.1) fun b => bd b.o.C fun c => gu (Nat.ble (Nat.succ q.2) c.1.length) (gu ((P.info? t).any fun j => j.size != 0) (some x))) = some a from ha)
    obtain ⟨b, h4, ha⟩ := bd_some ha
    obtain ⟨cc, h5, ha⟩ := bd_some ha
    obtain ⟨h6, ha⟩ := gu_some ha
    obtain ⟨h7, ha⟩ := gu_some ha
    cases Option.some.inj ha
    rw [A.P_eq h3] at hx
    obtain ⟨p, hp, rfl⟩ := V_p hx
    obtain ⟨p', o, k1, k2, k3⟩ := hm q.1 b h4
    rw [hp] at k1; cases k1
    rw [O.C_eq h5] at k3
    obtain ⟨cs, vs, rfl, g2, g3, g4, g5, g6⟩ := k3
    obtain ⟨j, hj, hjs⟩ := Option.any_eq_true .. |>.1 h7
    refine ⟨_, by rw [A.P_eq h3]; exact hx, ?_⟩
    exact Lib.run_to_unsafe (P := P) w (p.at q.2) h1 h2 hj (by simpa using hjs) (by simp [World.shape?, Pl.at, k2]; exact ⟨rfl, rfl⟩) (by have := Nat.le_of_ble_eq_true h6; show p.boff + q.2 < cs.size; omega)
  · rename_i t h1 h2
    obtain ⟨q, h3, ha⟩ := bd_some (show bd x.P (fun q => bd (h.get q.1) fun b => bd b.o.C fun c => gu (!c.2.2) (gu (liesAt P P.depth c.2.1 (c.1.length / P.cellsOf c.2.1) q.2 t 1) (gu (P.info? t).isSome (some x)))) = some a from ha)
    obtain ⟨b, h4, ha⟩ := bd_some ha
    obtain ⟨cc, h5, ha⟩ := bd_some ha
    obtain ⟨h6, ha⟩ := gu_some ha
    obtain ⟨h7, ha⟩ := gu_some ha
    obtain ⟨h8, ha⟩ := gu_some ha
    cases Option.some.inj ha
    rw [A.P_eq h3] at hx
    obtain ⟨p, hp, rfl⟩ := V_p hx
    obtain ⟨p', o, k1, k2, k3⟩ := hm q.1 b h4
    rw [hp] at k1; cases k1
    rw [O.C_eq h5] at k3
    obtain ⟨cs, vs, rfl, g2, g3, g4, g5, g6⟩ := k3
    obtain ⟨e1, e2⟩ := g6.1 (by simpa using h6)
    obtain ⟨j, hj⟩ := Option.isSome_iff_exists.1 h8
    refine ⟨_, by rw [A.P_eq h3]; exact hx, ?_⟩
    exact Lib.run_from_unsafe (P := P) w (p.at q.2) h1 h2 hj (by simp [World.shape?, Pl.at, k2]; exact ⟨rfl, rfl⟩) (by
      show liesAt P P.depth cc.2.1 (cs.size / P.cellsOf cc.2.1) (p.boff + q.2) t 1 = true
      rw [e1, Nat.zero_add, g2, ← e2]; exact h7)
  · cases ha
theorem me_ok (hm : Ob β h w) {o : Op} {g : Bx Me} {a : A} (hg : meD P c o = some g) (ha : g.f st m h = some a)
    (hρ : ∀ z ∈ o.operands, ∀ a, ev c z st m = some a → V β a = some (ρ z)) : Me1 P β w o ρ a := by
  have hg0 := hg
  unfold meD at hg
  split at hg
  · rename_i T x
    cases Option.some.inj hg
    obtain ⟨a1, h1, ha⟩ := bd_some ha
    obtain ⟨q, h2, ha⟩ := bd_some ha
    replace ha : (loadV P T).f h q.1 q.2 = some a := ha
    rw [A.P_eq h2] at h1
    obtain ⟨p, hp, hx⟩ := V_p (hρ x (by simp [Op.operands]) _ h1)
    obtain ⟨v, k1, k2⟩ := loadV_ok hm ha hp
    refine ⟨v, k1, fun d ty pos aft gd => ?_⟩
    simp [execOp, hx, Instr.loadAt, Instr.sureAddr, k2]
  · exact lookup_ok hm hg0 ha hρ
  · exact entry_ok hm hg0 ha hρ
  · rename_i args ts
    cases Option.some.inj hg
    obtain ⟨xs, h1, ha⟩ := bd_some ha
    have hv := evs_ok (β := β) (ρ := ρ) h1 (fun x hx => hρ x (by simpa [Op.operands, Call.operands] using hx))
    cases xs with
    | nil => cases ha
    | cons x r => cases r with
      | nil => exact len_ok hm rfl (show (lenD P ts).f h x = some a from ha) hv
      | cons y r => cases ha
  · rename_i s d x
    split at hg
    · cases hg
    · cases Option.some.inj hg
      obtain ⟨a1, h1, ha⟩ := bd_some ha
      replace ha : (convD P s d).f h a1 = some a := ha
      obtain ⟨v, k1, k2⟩ := conv_ok hm ha (hρ x (by simp [Op.operands]) _ h1)
      refine ⟨v, k1, fun d ty pos aft gd => ?_⟩
      simp only [execOp, Sem.run_bind]
      rw [k2]; rfl
  · cases hg
end
end Go.Ev
