/-
  The logic of walks, and the functions that the law calls.
-/
import Derived.WalkKit
import Derived.WalkSpells
import Derived.WalkLawsBesides
import Derived.Lib.Hide
import Derived.Deep.RegionHeld3
import Derived.StillTail
import Derived.Deep.LoopGhost
import Derived.IntWalk
import Derived.Test.YtfdgciidfohhgaaGreatDoorProg
import Derived.KernelRfl
import Derived.Deep.QuietTactic
import Derived.BigQuiet
import Derived.Laws.Externs
import Derived.Laws.BitsAllLaws
import Derived.StillTailTactics
import Derived.Test.YtfdgciidfohhgaaGreatDoorRows
import Derived.ProofKit
import Derived.Carry
import Derived.LaidMore
import Derived.HandedShaped
import Derived.Lib.SmallJoins
import Derived.Stop.Joined
import Derived.Shelf.Vars
import Derived.OpenShut
import Derived.Test.YtfdgciidfohhgaaGreatDoorCards
import Derived.SevenTiedAt
import Derived.Lay
import Derived.Lib.AppendStr
import Derived.Lib.Builder
import Derived.Shelf.Strings.Builder1
import Derived.Shelf.Strings.Builder2
import Derived.Shelf.Small.Bits
import Derived.Shelf.Small.Wraps
import Derived.Shelf.Strconv.Atoi
import Derived.Shelf.Strconv.Itoa0
import Derived.Shelf.Strconv.Itoa1
import Derived.Shelf.LaysM
import Derived.Shelf.Strconv.Itoa2
import Derived.Shelf.Strconv.Itoa3
import Derived.Shelf.Strings.Search1
import Derived.Shelf.Strings.Search2
import Derived.Shelf.Strings.Cut
import Derived.Shelf.Strings.Prefix
import Derived.Shelf.Bits.Mul64
import Derived.Shelf.Strings.Repeat
import Derived.Ground.Names2Prog
import Derived.Shelf.Slices.Clone
import Derived.Shelf.Slices.SearchI
import Derived.Ground.SlgnProg
import Derived.Shelf.SlicesE.Clone
import Derived.BigRegion
import Derived.Deep.DeepCutAuto
import Derived.Deep.CutBlock
import Derived.Lib.Walk
import Derived.Lib.ItoaMem
import Derived.BigCall
import Derived.BigGuard
import Derived.Lib.ItoaNum
import Derived.Lib.Atoi
import Derived.Lib.Repeat
import Derived.Lib.IndexMore
import Derived.Lib.IndexBytes
import Derived.MapKept
import Derived.Maps.RangeRun
import Derived.Lib.ItoaLen
import Derived.Shelf.SlSortCmp.PdqK
import Derived.Ground.SlsfProg
import Derived.Sort.AssemblyPlain
import Derived.Shelf.SlSortCmp.NoneTotal
set_option linter.all false
namespace Go.Proofs.YtfdgciidfohhgaaGreatDoor
open Go.RowKit
structure Enc (α : Type) where
  val : α → Value
  ty : TypeId
instance {α : Type} : CoeFun (Enc α) (fun _ => α → Value) := ⟨Enc.val⟩
abbrev Ext (w w' : World) : Prop := Below w.heap.size w w'
theorem Ext.refl (w : World) : Ext w w := Below.refl _ _
theorem Ext.trans {a b c : World} (h : Ext a b) (k : Ext b c) : Ext a c := Below.trans h (Below.mono k h.size)
theorem Ext.trans0 {a w w' : World} (h : Ext a w) (h1 : w'.os = w.os) (h2 : w'.tape = w.tape) (h3 : w'.output = w.output) (h4 : w.heap.size ≤ w'.heap.size) (h5 : ∀ i, i < a.heap.size → w'.heap[i]? = w.heap[i]?) : Ext a w' :=
  ⟨h1.trans h.os, h2.trans h.tape, h3.trans h.output, Nat.le_trans h.size h4, fun i hi => (h5 i hi).trans (h.block i hi)⟩
theorem Ext.alloc {a w : World} (h : Ext a w) (o : Obj) : Ext a (w.alloc o) := Below.alloc h h.size o
theorem Ext.drew {a w : World} (h : Ext a w) : Ext a w.drew := Below.drew h
end Go.Proofs.YtfdgciidfohhgaaGreatDoor

namespace Go.Proofs.YtfdgciidfohhgaaGreatDoor
open Go
section
variable {P : Program} {md : Region.Mode}
def orderedB (md : Region.Mode) (ops : Array Oper) (n : Nat) : Bool :=
  (List.range n).all fun i => match ops[i]? with
    | some o => o.after.all fun e => !Region.binds md e || decide (e.on < i)
    | none => false
theorem orderedB_spec {ops : Array Oper} {n : Nat} (h : orderedB md ops n = true) {i : Nat} (hi : i < n) : ∃ o, ops[i]? = some o ∧ ∀ e ∈ o.after, Region.binds md e = true → e.on < i := by
  have h1 := List.all_eq_true.1 h i (List.mem_range.2 hi)
  cases ho : ops[i]? with
  | none => rw [ho] at h1; cases h1
  | some o =>
    rw [ho] at h1
    refine ⟨o, rfl, fun e he hb => ?_⟩
    have h2 := Array.all_eq_true_iff_forall_mem.1 h1 e he
    simpa [hb] using h2
def quietOp : Op → Bool
  | .move _ | .assign _ | .pick .. | .nilCheck _ | .binOp .. | .unOp .. | .convert .. | .fieldAddr .. | .field .. | .indexAddr .. | .index .. | .extract .. | .slice .. | .build .. | .load .. | .makeFunc .. | .lookup .. => true
  | .call { callee := .builtin b, .. } => match b with | .len | .cap | .min | .max => true | _ => false
  | _ => false
section
variable {ops : Array Oper} {Q : Exit → Act → World → Prop} {S : World → Prop}
def lexH (P : Program) (ops : Array Oper) (Q : Exit → Act → World → Prop) (S : World → Prop) : List Nat → Act → World → Prop
  | [], a, w => Q .normal a w
  | i :: r, a, w => ∃ o, ops[i]? = some o ∧
      ((quietOp o.op = true ∧ ∃ v, YieldsIf P ops S o v a ∧ lexH P ops Q S r (a.put o.dst v) w) ∨
       (quietOp o.op = false ∧ wpOp P ops (fun _ _ _ => False) i (fun a' w' => S w' ∧ lexH P ops Q S r a' w') a w))
theorem wpOp_ex {i : Nat} {o : Oper} {K : Act → World → Prop} {a : Act} {w : World} (hi : ops[i]? = some o) (h : wpOp P ops (fun _ _ _ => False) i K a w) :
    ∃ u w' d, K ({ a with defers := d }.put o.dst u) w' := by
  unfold wpOp at h
  simp only [hi] at h
  split at h
  · rcases h with h | ⟨_, _, _, h⟩
    · unfold Oper.wp at h
      generalize (execOp a.eval o).run P w = r at *
      cases r with
      | ok n w' =>
        cases n <;> simp only [Oper.upon] at h
        case value u => exact ⟨u, w', a.defers, h⟩
        case skip => exact ⟨undef, w', a.defers, h⟩
        case defer d => exact ⟨undef, w', d :: a.defers, h⟩
        case enter f args =>
          obtain ⟨e, w'', fr, hR, _⟩ := h []
          cases e with
          | returned u => exact ⟨u, w'', a.defers, hR⟩
          | panicked c => exact hR.elim
          | outgrown => obtain ⟨_, _, h⟩ := hR; exact h.elim
        case row row args =>
          obtain ⟨u, w'', hR, _⟩ := h default []
          exact ⟨u, w'', a.defers, hR⟩
        all_goals exact h.elim
      | halt x w' => cases x <;> simp only [Oper.upon] at h <;> exact h.elim
    · exact h.elim
  · exact ⟨undef, w, a.defers, h⟩
theorem wpOp_put_in {j : Nat} {oi oj : Oper} {v : Value} (hj : ops[j]? = some oj) (hap : oi.apart ops oj = true) (hsj : ∀ cs b, oj.op ≠ .select cs b)
    {K : Act → World → Prop} {a : Act} {w : World} (h : wpOp P ops (fun _ _ _ => False) j (fun a' w' => K (a'.put oi.dst v) w') a w) :
    wpOp P ops (fun _ _ _ => False) j K (a.put oi.dst v) w := by
  obtain ⟨h1, h2, h3⟩ := Oper.apart_spec hap
  unfold wpOp at *
  simp only [hj] at *
  rw [wanted_put oj a oi.dst v h1]
  split
  · rename_i hw
    simp only [hw, if_true] at h
    rcases h with h | ⟨hasks, hlets⟩
    case inr => exact .inr ⟨by unfold Oper.asks at *; rw [execOp_put oj hsj a oi.dst v h1]; exact hasks, hlets⟩
    refine .inl ?_
    unfold Oper.wp at *
    rw [execOp_put oj hsj a oi.dst v h1]
    generalize (execOp a.eval oj).run P w = r at *
    cases r with
    | ok n w' =>
      cases n <;> simp only [Oper.upon] at h ⊢
      case value u => rw [Act.put_comm a v u h2]; exact h
      case skip => rw [Act.put_comm a v undef h2]; exact h
      case defer d => rw [Act.put_defers, Act.put_comm _ v undef h2]; exact h
      case enter f args =>
        refine Calls.mono h fun e w'' he => ?_
        cases e with
        | returned u => show K _ _; rw [Act.put_comm a v u h2]; exact he
        | panicked c => exact he
        | outgrown => exact he
      case row row args => exact Rows.mono h fun u w'' he => (by rw [Act.put_comm a v u h2]; exact he)
    | halt x w' => cases x <;> simp only [Oper.upon] at h ⊢
  · rename_i hw
    simp only [hw] at h
    rw [Act.put_comm a v undef h2]; exact h
theorem YieldsIf.uniq {o : Oper} {v v' : Value} {a : Act} {w : World} (hS : S w) (h : YieldsIf P ops S o v a) (h' : YieldsIf P ops S o v' a) : v = v' := by
  rcases h with ⟨h1, h2⟩ | ⟨h1, h2⟩ <;> rcases h' with ⟨g1, g2⟩ | ⟨g1, g2⟩
  · have := (h2 w hS).symm.trans (g2 w hS)
    simpa using this
  · rw [h1] at g1; cases g1
  · rw [h1] at g1; cases g1
  · rw [h2, g2]
theorem apart_symm {x y : Oper} (h : x.apart ops y = true) : y.apart ops x = true := by
  obtain ⟨h1, h2, h3⟩ := Oper.apart_spec h
  unfold Oper.apart
  cases hx : x.dst with
  | none => cases hy : y.dst with
    | none => rfl
    | some e => simpa using h3 e hy
  | some d =>
    have g1 := h1 d hx
    have g2 := h2 d hx
    cases hy : y.dst with
    | none => simpa using g1
    | some e =>
      have g3 := h3 e hy
      rw [hy] at g2
      simp only [ne_eq, Option.some.injEq] at g2
      simp [g3, g1]
      exact fun h => g2 h.symm
theorem lexH_front {j : Nat} {oj : Oper} {post : List Nat} (hoj : ops[j]? = some oj) (hq : quietOp oj.op = true) (hsel : ∀ (j : Nat) (o : Oper) cs b, ops[j]? = some o → o.op ≠ .select cs b) :
    ∀ (pre : List Nat) (a : Act) (w : World), (∀ k ∈ pre, ∀ ok, ops[k]? = some ok → oj.apart ops ok = true) → lexH P ops Q S (pre ++ j :: post) a w →
      ∃ v, YieldsIf P ops S oj v a ∧ lexH P ops Q S (pre ++ post) (a.put oj.dst v) w
  | [], a, w, _, h => by
    obtain ⟨o, ho, h⟩ := h
    have : o = oj := Option.some.inj (ho.symm.trans hoj)
    subst this
    rcases h with ⟨_, v, h1, h2⟩ | ⟨h1, _⟩
    · exact ⟨v, h1, h2⟩
    · rw [hq] at h1; cases h1
  | k :: pre, a, w, hap, h => by
    obtain ⟨ok, hok, h⟩ := h
    have hk := hap k (by simp) ok hok
    obtain ⟨p1, p2, p3⟩ := Oper.apart_spec hk
    rcases h with ⟨hqk, vk, hyk, h⟩ | ⟨hqk, h⟩
    · obtain ⟨v, hy, h⟩ := lexH_front hoj hq hsel pre _ w (fun i hi => hap i (by simp [hi])) h
      have hy' : YieldsIf P ops S oj v a := by
        refine hy.of_same ?_ ?_
        · exact (execOp_put oj (fun cs b => hsel j oj cs b hoj) a ok.dst vk p3).symm
        · exact (wanted_put oj a ok.dst vk p3).symm
      refine ⟨v, hy', ok, hok, .inl ⟨hqk, vk, ?_, ?_⟩⟩
      · refine hyk.of_same ?_ ?_
        · exact execOp_put ok (fun cs b => hsel k ok cs b hok) a oj.dst v p1
        · exact wanted_put ok a oj.dst v p1
      · rw [Act.put_comm a v vk p2]; exact h
    · have h2 := wpOp_mono (fun a' w' (h : S w' ∧ lexH P ops Q S (pre ++ j :: post) a' w') => (⟨h.1, lexH_front hoj hq hsel pre a' w' (fun i hi => hap i (by simp [hi])) h.2⟩ :
        S w' ∧ ∃ v, YieldsIf P ops S oj v a' ∧ lexH P ops Q S (pre ++ post) (a'.put oj.dst v) w')) h
      obtain ⟨u, w1, d, hS1, v0, hy0, _⟩ := wpOp_ex hok h2
      have back : ∀ (d : List Deferred) (u v : Value), YieldsIf P ops S oj v ({ a with defers := d }.put ok.dst u) → YieldsIf P ops S oj v a := fun d u v hy => by
        refine hy.of_same ?_ ?_
        · rw [execOp_put oj (fun cs b => hsel j oj cs b hoj) _ ok.dst u p3]; rfl
        · rw [wanted_put oj _ ok.dst u p3]
      have hya := back d u v0 hy0
      refine ⟨v0, hya, ok, hok, .inr ⟨hqk, ?_⟩⟩
      refine wpOp_put_in hok hk (fun cs b => hsel k ok cs b hok) ?_
      have h3 : wpOp P ops (fun _ _ _ => False) k (fun a' w' => (YieldsIf P ops S oj v0 a') ∧ (S w' ∧ ∃ v, YieldsIf P ops S oj v a' ∧ lexH P ops Q S (pre ++ post) (a'.put oj.dst v) w')) a w := by
        have keep : ∀ (u : Value), YieldsIf P ops S oj v0 (a.put ok.dst u) := fun u => by
          refine hya.of_same ?_ ?_
          · exact execOp_put oj (fun cs b => hsel j oj cs b hoj) a ok.dst u p3
          · exact wanted_put oj a ok.dst u p3
        have keepd : ∀ (d : Deferred) (u : Value), YieldsIf P ops S oj v0 ({ a with defers := d :: a.defers }.put ok.dst u) := fun d u => by
          refine hya.of_same ?_ ?_
          · rw [execOp_put oj (fun cs b => hsel j oj cs b hoj) _ ok.dst u p3]; rfl
          · rw [wanted_put oj _ ok.dst u p3]
        clear h
        unfold wpOp at h2 ⊢
        simp only [hok] at h2 ⊢
        split
        · rename_i hw
          simp only [hw, if_true] at h2
          rcases h2 with h2 | h2
          case inr => exact .inr h2
          refine .inl ?_
          unfold Oper.wp at *
          generalize (execOp a.eval ok).run P w = r at *
          cases r with
          | ok n w' =>
            cases n <;> simp only [Oper.upon] at h2 ⊢
            case value u => exact ⟨keep u, h2⟩
            case skip => exact ⟨keep _, h2⟩
            case defer d => exact ⟨keepd d _, h2⟩
            case enter f args =>
              refine Calls.mono h2 fun e w'' he => ?_
              cases e with
              | returned u => exact ⟨keep u, he⟩
              | panicked c => exact he
              | outgrown => exact he
            case row row args => exact Rows.mono h2 fun u w'' he => ⟨keep u, he⟩
          | halt x w' => cases x <;> simp only [Oper.upon] at h2 ⊢
        · rename_i hw
          simp only [hw] at h2
          exact ⟨keep _, h2⟩
      refine wpOp_mono (fun a' w' h => ?_) h3
      obtain ⟨hy, hS, v, hy2, hl⟩ := h
      have : v = v0 := YieldsIf.uniq hS hy2 hy
      subst this
      exact ⟨hS, hl⟩
end
section
variable {ops : Array Oper} {Q : Exit → Act → World → Prop} {S : World → Prop}
theorem wpOp_bot {i : Nat} {K : Act → World → Prop} {a : Act} {w : World} (h : wpOp P ops (fun _ _ _ => False) i K a w) : wpOp P ops Q i K a w := by
  unfold wpOp at *
  cases ho : ops[i]? with
  | none => simp only [ho] at h ⊢; exact h
  | some o =>
    simp only [ho] at h ⊢
    split
    · rename_i hw
      rw [if_pos hw] at h
      rcases h with h | ⟨_, _, _, h⟩
      · refine .inl ?_
        unfold Oper.wp at *
        generalize (execOp a.eval o).run P w = r at *
        cases r with
        | ok n w' =>
          cases n <;> simp only [Oper.upon] at h ⊢
          all_goals first
            | exact h
            | exact Calls.mono h fun e w'' he => by
                cases e with
                | returned u => exact he
                | panicked c => exact he.elim
                | outgrown => obtain ⟨_, _, h⟩ := he; exact h.elim
        | halt x w' => cases x <;> simp only [Oper.upon] at h ⊢
      · exact h.elim
    · rename_i hw
      rw [if_neg hw] at h; exact h
def maskOf (md : Region.Mode) (acc : List Nat) (o : Oper) : Nat := o.after.foldl (fun s e => if Region.binds md e then s ||| 2 ^ e.on ||| acc.getD e.on 0 else s) 0
def masks (md : Region.Mode) (ops : List Oper) : List Nat := ops.foldl (fun acc o => acc ++ [maskOf md acc o]) []
theorem foldl_mask {md : Region.Mode} {acc : List Nat} {i : Nat} : ∀ (l : List Edge) (s : Nat), (l.foldl (fun s e => if Region.binds md e then s ||| 2 ^ e.on ||| acc.getD e.on 0 else s) s).testBit i = true →
    s.testBit i = true ∨ ∃ e ∈ l, Region.binds md e = true ∧ (i = e.on ∨ (acc.getD e.on 0).testBit i = true)
  | [], s, h => .inl h
  | e :: l, s, h => by
    rw [List.foldl_cons] at h
    rcases foldl_mask l _ h with h | ⟨e', he', h⟩
    · split at h
      · rename_i hb
        rw [Nat.testBit_or, Nat.testBit_or, Nat.testBit_two_pow] at h
        simp only [Bool.or_eq_true, decide_eq_true_eq] at h
        rcases h with (h | h) | h
        · exact .inl h
        · exact .inr ⟨e, by simp, hb, .inl h.symm⟩
        · exact .inr ⟨e, by simp, hb, .inr h⟩
      · exact .inl h
    · exact .inr ⟨e', by simp [he'], h⟩
theorem maskOf_spec {md : Region.Mode} {acc : List Nat} {o : Oper} {i : Nat} (h : (maskOf md acc o).testBit i = true) : ∃ e ∈ o.after, Region.binds md e = true ∧ (i = e.on ∨ (acc.getD e.on 0).testBit i = true) := by
  unfold maskOf at h
  rw [← Array.foldl_toList] at h
  rcases foldl_mask _ _ h with h | ⟨e, he, h⟩
  · simp at h
  · exact ⟨e, by simpa using he, h⟩
theorem masks_aux (md : Region.Mode) : ∀ (l : List Oper) (acc : List Nat), ∃ r, l.foldl (fun acc o => acc ++ [maskOf md acc o]) acc = acc ++ r ∧ r.length = l.length ∧
    ∀ k o, l[k]? = some o → r[k]? = some (maskOf md (acc ++ r.take k) o)
  | [], acc => ⟨[], by simp, rfl, fun k o h => by simp at h⟩
  | o :: l, acc => by
    obtain ⟨r, h1, h2, h3⟩ := masks_aux md l (acc ++ [maskOf md acc o])
    refine ⟨maskOf md acc o :: r, by simp [h1], by simp [h2], fun k o' h => ?_⟩
    cases k with
    | zero => simp at h; subst h; simp
    | succ k =>
      simp at h
      have := h3 k o' h
      simpa using this
theorem masks_spec {md : Region.Mode} {l : List Oper} {k i : Nat} {o : Oper} (ho : l[k]? = some o) (hord : ∀ e ∈ o.after, Region.binds md e = true → e.on < k) (h : ((masks md l).getD k 0).testBit i = true) :
    ∃ e ∈ o.after, Region.binds md e = true ∧ (i = e.on ∨ ((masks md l).getD e.on 0).testBit i = true) := by
  obtain ⟨r, h1, h2, h3⟩ := masks_aux md l []
  have e1 : masks md l = r := by unfold masks; rw [h1]; simp
  rw [e1] at h ⊢
  have h4 := h3 k o ho
  rw [List.getD, h4] at h
  obtain ⟨e, he, hb, hi⟩ := maskOf_spec h
  refine ⟨e, he, hb, hi.imp id fun hi => ?_⟩
  have hlt := hord e he hb
  have hk : k < r.length := by rcases Nat.lt_or_ge k r.length with g | g; exact g; rw [List.getElem?_eq_none g] at h4; cases h4
  have e2 : ([] ++ r.take k).getD e.on 0 = r.getD e.on 0 := by simp [List.getD, hlt]
  rw [e2] at hi; exact hi
def lexB (md : Region.Mode) (l : List Oper) : Bool :=
  let ms := masks md l
  Region.noSelect l.toArray && orderedB md l.toArray l.length && (List.range l.length).all fun j => match l[j]? with
    | none => false
    | some oj => (List.range j).all fun i => match l[i]? with
      | none => false
      | some oi => if quietOp oi.op || quietOp oj.op then (Region.waitsFor md l.toArray j i || oi.apart l.toArray oj) else (ms.getD j 0).testBit i
theorem lexB_spec {l : List Oper} (h : lexB md l = true) {i j : Nat} (hij : i < j) {oi oj : Oper} (hi : l[i]? = some oi) (hj : l[j]? = some oj) :
    if quietOp oi.op || quietOp oj.op then (Region.waitsFor md l.toArray j i || oi.apart l.toArray oj) = true else ((masks md l).getD j 0).testBit i = true := by
  simp only [lexB, Bool.and_eq_true] at h
  have hjl : j < l.length := by rcases Nat.lt_or_ge j l.length with g | g; exact g; rw [List.getElem?_eq_none g] at hj; cases hj
  have h1 := List.all_eq_true.1 h.2 j (List.mem_range.2 hjl)
  rw [hj] at h1
  have h2 := List.all_eq_true.1 h1 i (List.mem_range.2 hij)
  rw [hi] at h2
  simp only at h2
  split
  · rename_i g; rw [if_pos g] at h2; exact h2
  · rename_i g; rw [if_neg g] at h2; exact h2
theorem mask_listed {l : List Oper} {listed : Array Bool} (hord : orderedB md l.toArray l.length = true) (hcl : ∀ j oj, l.toArray[j]? = some oj → listed.getD j false = true → ∀ e ∈ oj.after, Region.binds md e = true → listed.getD e.on false = true) :
    ∀ (k : Nat) (o : Oper), l[k]? = some o → (∀ e ∈ o.after, Region.binds md e = true → listed.getD e.on false = true) → ∀ i, ((masks md l).getD k 0).testBit i = true → listed.getD i false = true := by
  intro k
  induction k using Nat.strongRecOn with
  | _ k ih =>
    intro o ho hd i hi
    have hk : k < l.length := by rcases Nat.lt_or_ge k l.length with g | g; exact g; rw [List.getElem?_eq_none g] at ho; cases ho
    obtain ⟨o', ho', hed⟩ := orderedB_spec hord hk
    have : o' = o := Option.some.inj (ho'.symm.trans (by simpa using ho))
    subst this
    obtain ⟨e, he, hb, h⟩ := masks_spec ho hed hi
    have h1 := hd e he hb
    rcases h with rfl | h
    · exact h1
    · have hlt := hed e he hb
      obtain ⟨oe, hoe, _⟩ := orderedB_spec hord (Nat.lt_trans hlt hk)
      exact ih e.on hlt oe (by simpa using hoe) (hcl e.on oe hoe h1) i h
theorem lex_any {l : List Oper} (hB : lexB md l = true) (hQ : ∀ c a d v w, Q (.panic c) (Act.put a d v) w → Q (.panic c) a w) :
    ∀ (m : Nat) (r : List Nat) (listed : Array Bool) (a : Act) (w : World), r.length = m → r.Pairwise (· < ·) → (∀ i, i ∈ r ↔ i < l.length ∧ listed.getD i true = false) → listed.size = l.length →
      (∀ j oj, l.toArray[j]? = some oj → listed.getD j false = true → ∀ e ∈ oj.after, Region.binds md e = true → listed.getD e.on false = true) → S w → lexH P l.toArray Q S r a w → wpAnyH P md l.toArray Q S m listed a w := by
  have hB' := hB
  simp only [lexB, Bool.and_eq_true] at hB'
  obtain ⟨⟨hns, hord⟩, _⟩ := hB'
  have hsel := Region.noSelect_spec hns
  intro m
  induction m with
  | zero =>
    intro r listed a w hm hs hr hsz hcl hS h
    have : r = [] := List.length_eq_zero_iff.1 hm
    subst this
    refine ⟨?_, h⟩
    rw [List.eq_nil_iff_forall_not_mem]
    intro i hi
    obtain ⟨h1, o, ho, _⟩ := mem_ready.1 hi
    have hlt : i < l.length := by have := (Array.getElem?_eq_some_iff.1 ho).1; simpa using this
    have := (hr i).2 ⟨hlt, h1⟩
    cases this
  | succ m ih =>
    intro r listed a w hm hs hr hsz hcl hS h
    match r, hm, hs, hr, h with
    | i :: r, hm, hs, hr, h =>
    have hil := (hr i).1 (by simp)
    have hmin : ∀ j, j < i → listed.getD j false = true := by
      intro j hj
      cases hv : listed.getD j false with
      | true => rfl
      | false =>
        have hjl : j < l.length := by omega
        have := (hr j).2 ⟨hjl, getD_in (by omega) hv⟩
        rcases List.mem_cons.1 this with e | e
        · omega
        · have := (List.pairwise_cons.1 hs).1 j e; omega
    obtain ⟨oi, hoi, hed⟩ := orderedB_spec hord hil.1
    have hri : i ∈ Region.ready md l.toArray listed := mem_ready.2 ⟨hil.2, oi, hoi, fun e he hb => hmin _ (hed e he hb)⟩
    have next : ∀ j, j ∈ Region.ready md l.toArray listed → j ∈ (i :: r) → ∀ a' w', S w' → lexH P l.toArray Q S ((i :: r).erase j) a' w' → wpAnyH P md l.toArray Q S m (listed.setIfInBounds j true) a' w' := by
      intro j hj hjr a' w' hS' h'
      have hjsz : j < listed.size := by rw [hsz]; exact ((hr j).1 hjr).1
      refine ih ((i :: r).erase j) _ a' w' (by rw [List.length_erase_of_mem hjr]; simp at hm ⊢; omega) (hs.sublist List.erase_sublist) (fun k => ?_) (by simpa using hsz) (fun k ok hk hl e he hb => ?_) hS' h'
      · rw [List.Nodup.mem_erase_iff (hs.imp (fun h => Nat.ne_of_lt h)), hr k]
        by_cases hjk : j = k
        · subst hjk; simp [hjsz]
        · rw [getD_set_ne true hjk]; simp [Ne.symm hjk]
      · by_cases hjk : j = k
        · subst hjk
          obtain ⟨_, oj, hoj, hall⟩ := mem_ready.1 hj
          have : ok = oj := Option.some.inj (hk.symm.trans hoj)
          subst this
          exact getD_set_true (hall e he hb)
        · rw [getD_set_ne false hjk] at hl
          exact getD_set_true (hcl k ok hk hl e he hb)
    have take : ∀ j oj, j ∈ Region.ready md l.toArray listed → l.toArray[j]? = some oj → quietOp oj.op = true → j ∈ (i :: r) → wpAnyH P md l.toArray Q S (m + 1) listed a w := by
      intro j oj hj hoj hq hjr
      obtain ⟨pre, post, hpp⟩ := List.append_of_mem hjr
      have hjs := mem_ready.1 hj
      have happ : ∀ k ok, l.toArray[k]? = some ok → k ≠ j → listed.getD k true = false → (∀ e ∈ ok.after, Region.binds md e = true → e.on ≠ j) → oj.apart l.toArray ok = true := by
        intro k ok hok hkj hun hno
        have hnw : Region.waitsFor md l.toArray k j = false := by
          cases hv : Region.waitsFor md l.toArray k j with
          | false => rfl
          | true =>
            obtain ⟨o', ho', e, he, hb, hon⟩ := Region.waitsFor_spec hv
            have : o' = ok := Option.some.inj (ho'.symm.trans hok)
            subst this
            exact absurd hon (hno e he hb)
        have hnw2 : Region.waitsFor md l.toArray j k = false := by
          cases hv : Region.waitsFor md l.toArray j k with
          | false => rfl
          | true =>
            obtain ⟨o', ho', e, he, hb, hon⟩ := Region.waitsFor_spec hv
            obtain ⟨_, o2, ho2, hall⟩ := hjs
            have : o' = o2 := Option.some.inj (ho'.symm.trans ho2)
            subst this
            have := hall e he hb
            rw [hon, getD_both hun] at this; cases this
        rcases Nat.lt_or_gt_of_ne hkj with hlt | hgt
        · have := lexB_spec hB hlt (by simpa using hok) (by simpa using hoj)
          rw [if_pos (by simp [hq]), hnw2] at this
          exact apart_symm (by simpa using this)
        · have := lexB_spec hB hgt (by simpa using hoj) (by simpa using hok)
          rw [if_pos (by simp [hq]), hnw] at this
          simpa using this
      have hfront := lexH_front (P := P) (Q := Q) (S := S) hoj hq hsel pre a w (post := post) (fun k hk ok hok => by
        have hkr : k ∈ (i :: r) := by rw [hpp]; simp [hk]
        have hkj : k < j := by
          rw [hpp] at hs
          exact (List.pairwise_append.1 hs).2.2 k hk j (by simp)
        refine happ k ok hok (by omega) ((hr k).1 hkr).2 (fun e he hb heq => ?_)
        obtain ⟨o', ho', hed'⟩ := orderedB_spec hord ((hr k).1 hkr).1
        have : o' = ok := Option.some.inj (ho'.symm.trans hok)
        subst this
        have := hed' e he hb; omega) (by rw [← hpp]; exact h)
      obtain ⟨v, hy, h'⟩ := hfront
      have herase : (i :: r).erase j = pre ++ post := by
        rw [hpp, List.erase_append_right, List.erase_cons_head]
        intro hmem
        rw [hpp] at hs
        have := (List.pairwise_append.1 hs).2.2 j hmem j (by simp)
        omega
      exact wpAnyH_first hoj hsel (fun c a w h => hQ c a _ v w h) m listed a w happ hj hy hS (next j hj hjr _ w hS (by rw [herase]; exact h'))
    by_cases hex : ∃ j oj, j ∈ Region.ready md l.toArray listed ∧ l.toArray[j]? = some oj ∧ quietOp oj.op = true
    · obtain ⟨j, oj, hj, hoj, hq⟩ := hex
      have hjl : j < l.length := by have := (Array.getElem?_eq_some_iff.1 hoj).1; simpa using this
      exact take j oj hj hoj hq ((hr j).2 ⟨hjl, (mem_ready.1 hj).1⟩)
    ·
      have hone : ∀ j ∈ Region.ready md l.toArray listed, j = i := by
        intro j hj
        obtain ⟨hjun, oj, hoj, hall⟩ := mem_ready.1 hj
        have hjl : j < l.length := by have := (Array.getElem?_eq_some_iff.1 hoj).1; simpa using this
        have hjr := (hr j).2 ⟨hjl, hjun⟩
        rcases List.mem_cons.1 hjr with e | e
        · exact e
        · have hlt := (List.pairwise_cons.1 hs).1 j e
          have hqj : quietOp oj.op = false := by
            cases hv : quietOp oj.op with
            | false => rfl
            | true => exact absurd ⟨j, oj, hj, hoj, hv⟩ hex
          have hqi : quietOp oi.op = false := by
            cases hv : quietOp oi.op with
            | false => rfl
            | true => exact absurd ⟨i, oi, hri, hoi, hv⟩ hex
          have := lexB_spec hB hlt (by simpa using hoi) (by simpa using hoj)
          rw [if_neg (by simp [hqi, hqj])] at this
          have := mask_listed hord hcl j oj (by simpa using hoj) hall i this
          rw [getD_both hil.2] at this; cases this
      refine ⟨fun h0 => (by rw [h0] at hri; cases hri), fun j hj => ?_⟩
      have := hone j hj
      subst this
      obtain ⟨o, ho, h⟩ := h
      have : o = oi := Option.some.inj (ho.symm.trans hoi)
      subst this
      rcases h with ⟨hq, _⟩ | ⟨_, h⟩
      · exact absurd ⟨j, o, hri, ho, hq⟩ hex
      · refine wpOp_bot (wpOp_mono (fun a' w' h => ⟨h.1, ?_⟩) h)
        exact next j hri (by simp) a' w' h.1 (by rw [List.erase_cons_head]; exact h.2)
end
section
variable {Q : Exit → Act → World → Prop} {S : World → Prop}
def lexL (P : Program) (ops : Array Oper) (Q : Exit → Act → World → Prop) (S : World → Prop) : List Oper → Act → World → Prop
  | [], a, w => Q .normal a w
  | o :: r, a, w =>
      (quietOp o.op = true ∧ ∃ v, YieldsIf P ops S o v a ∧ lexL P ops Q S r (a.put o.dst v) w) ∨
       (quietOp o.op = false ∧ if Region.wanted o (yielded ops a.tmps) then o.wp P a w (fun a' w' => S w' ∧ lexL P ops Q S r a' w') (fun _ _ _ => False) else S w ∧ lexL P ops Q S r (a.put o.dst undef) w)
theorem lexH_of_lexL {ops : Array Oper} : ∀ (l : List Oper) (k : Nat) (a : Act) (w : World), (∀ j, j < l.length → l[j]? = ops[k + j]?) → lexL P ops Q S l a w → lexH P ops Q S (List.range' k l.length) a w
  | [], k, a, w, _, h => h
  | o :: l, k, a, w, hl, h => by
    have h0 : ops[k]? = some o := by simpa using (hl 0 (by simp)).symm
    have hl' : ∀ j, j < l.length → l[j]? = ops[k + 1 + j]? := fun j hj => by
      have := hl (j + 1) (by simp; omega)
      rw [show k + 1 + j = k + (j + 1) by omega, ← this]; simp
    rw [List.length_cons, List.range'_succ]
    refine ⟨o, h0, ?_⟩
    rcases h with ⟨h1, v, h2, h3⟩ | ⟨h1, h2⟩
    · exact .inl ⟨h1, v, h2, lexH_of_lexL l (k + 1) _ w hl' h3⟩
    · refine .inr ⟨h1, ?_⟩
      unfold wpOp
      simp only [h0]
      split
      · rename_i hw
        rw [if_pos hw] at h2
        exact .inl (Oper.wp_mono (fun a' w' h => ⟨h.1, lexH_of_lexL l (k + 1) a' w' hl' h.2⟩) h2)
      · rename_i hw
        rw [if_neg hw] at h2
        exact ⟨h2.1, lexH_of_lexL l (k + 1) _ w hl' h2.2⟩
theorem wpAny_of_lexL {l : List Oper} {Q' : Exit → Act → World → Prop} (hB : lexB .any l = true) (hQ : ∀ c a w, ¬ Q' (.panic c) a w) {a : Act} {w : World} (hS : S w) (h : lexL P l.toArray Q' S l a w) :
    wpAny P .any l.toArray Q' l.length (Array.replicate l.length false) a w := by
  refine wpAny_of_held _ _ _ _ (lex_any hB (fun c a d v w h => absurd h (hQ c _ w)) l.length (List.range' 0 l.length) _ a w (by simp) List.pairwise_lt_range' (fun i => ?_) (by simp) (fun j oj _ hl => (by rw [getD_replicate_false] at hl; cases hl)) hS (lexH_of_lexL l 0 a w (fun j _ => by simp) h))
  rw [List.mem_range'_1]
  constructor
  · intro h
    have : i < l.length := by omega
    simp [this]
  · intro h; omega
def onlyN (K : Act → World → Prop) : Exit → Act → World → Prop
  | .normal, a, w => K a w
  | _, _, _ => False
theorem Oper.wp_monoQ {o : Oper} {a : Act} {w : World} {K : Act → World → Prop} {Q Q' : Exit → Act → World → Prop} (hq : ∀ e a w, Q e a w → Q' e a w) (h : o.wp P a w K Q) : o.wp P a w K Q' := by
  unfold Oper.wp at *
  generalize (execOp a.eval o).run P w = r at *
  cases r with
  | ok n w' =>
    cases n <;> simp only [Oper.upon] at h ⊢
    all_goals first
      | exact h
      | exact Calls.mono h fun e w'' he => by
          cases e with
          | returned u => exact he
          | panicked c => exact hq _ _ _ he
          | outgrown => obtain ⟨a, w, h⟩ := he; exact ⟨a, w, hq _ _ _ h⟩
  | halt x w' => cases x <;> simp only [Oper.upon] at h ⊢; exact hq _ _ _ h
theorem wpOp_monoQ {ops : Array Oper} {i : Nat} {K : Act → World → Prop} {Q Q' : Exit → Act → World → Prop} {a : Act} {w : World} (hq : ∀ e a w, Q e a w → Q' e a w) (h : wpOp P ops Q i K a w) : wpOp P ops Q' i K a w := by
  unfold wpOp at *
  cases ho : ops[i]? with
  | none => simp only [ho] at h ⊢; exact h
  | some o =>
    simp only [ho] at h ⊢
    split
    · rename_i hw
      rw [if_pos hw] at h
      exact h.imp (Oper.wp_monoQ hq) (fun ⟨h1, a, w, h2⟩ => ⟨h1, a, w, hq _ _ _ h2⟩)
    · rename_i hw; rw [if_neg hw] at h; exact h
theorem wpAny_monoQ {ops : Array Oper} {Q Q' : Exit → Act → World → Prop} (hq : ∀ e a w, Q e a w → Q' e a w) : ∀ (f : Nat) (listed : Array Bool) (a : Act) (w : World), wpAny P md ops Q f listed a w → wpAny P md ops Q' f listed a w
  | 0, _, _, _, h => ⟨h.1, hq _ _ _ h.2⟩
  | f + 1, _, _, _, h => ⟨fun h0 => hq _ _ _ (h.1 h0), fun i hi => wpOp_monoQ hq (wpOp_mono (fun a' w' h' => wpAny_monoQ hq f _ a' w' h') (h.2 i hi))⟩
theorem wp_region_lex {id : Nat} {a : Act} {w : World} {l : List Oper} (hm : P.follows .mixedOrders = true) (hB : lexB .any l = true) (hS : S { w with drawn := w.drawn + 1 })
    (h : lexL P l.toArray (onlyN (Q .normal)) S l a { w with drawn := w.drawn + 1 }) : (Code.region id l.toArray true).wp P Q a w := by
  refine wp_region_any hm ?_
  have := wpAny_of_lexL (P := P) (Q' := onlyN (Q .normal)) hB (fun c a w h => h) hS h
  simpa using wpAny_monoQ (Q' := Q) (fun e a w h => by cases e <;> first | exact h | exact h.elim) _ _ _ _ this
end
end
end Go.Proofs.YtfdgciidfohhgaaGreatDoor

namespace Go.Proofs.YtfdgciidfohhgaaGreatDoor
open Go.RowKit
abbrev Gs := Nat → Option (Array Value × TypeId)
def Gs.le (F F' : Gs) : Prop := ∀ b x, F b = some x → F' b = some x
theorem Gs.le_refl (F : Gs) : Gs.le F F := fun _ _ h => h
theorem Gs.le_trans {F F' F'' : Gs} (h : Gs.le F F') (k : Gs.le F' F'') : Gs.le F F'' := fun b x hx => k b x (h b x hx)
class Dr where
  on : Prop
instance (priority := 10) noDr : Dr := ⟨False⟩
class Df where
  ds : List Deferred
instance (priority := 10) noDf : Df := ⟨[]⟩
structure Exd [Dr] (w w' : World) : Prop extends Below w.heap.size w w' where
  dr : Dr.on → w.drawn ≤ w'.drawn
section
variable [Dr]
theorem Exd.refl (w : World) : Exd w w := ⟨Ext.refl w, fun _ => Nat.le_refl _⟩
theorem Exd.trans {a b c : World} (h : Exd a b) (k : Exd b c) : Exd a c := ⟨Ext.trans h.toBelow k.toBelow, fun d => Nat.le_trans (h.dr d) (k.dr d)⟩
theorem Exd.alloc {a w : World} (h : Exd a w) (o : Obj) : Exd a (w.alloc o) := ⟨Ext.alloc h.toBelow o, h.dr⟩
theorem Exd.drew {a w : World} (h : Exd a w) : Exd a w.drew := ⟨Ext.drew h.toBelow, fun d => Nat.le_succ_of_le (h.dr d)⟩
end
theorem Exd.of {w w' : World} (h : Ext w w') : Exd w w' := ⟨h, fun d => d.elim⟩
section
variable [Dr] [df : Df]
structure Fits (F : Gs) (w : World) : Prop where
  row : ∀ b c T, F b = some (c, T) → ∃ fr, w.heap[b]? = some (.cells c T fr)
  all : ∀ b c fr, w.heap[b]? = some (.cells c 231 fr) → F b = some (c, 231)
theorem Fits.drew {F : Gs} {w : World} (h : Fits F w) : Fits F w.drew := ⟨h.row, h.all⟩
theorem Fits.lt {F : Gs} {w : World} (h : Fits F w) {b : Nat} {x : Array Value × TypeId} (hb : F b = some x) : b < w.heap.size := by
  obtain ⟨fr, h⟩ := h.row b x.1 x.2 hb
  rcases Nat.lt_or_ge b w.heap.size with g | g
  · exact g
  · rw [Array.getElem?_eq_none g] at h; cases h
theorem Fits.none {F : Gs} {w : World} (h : Fits F w) {b : Nat} (hb : w.heap.size ≤ b) : F b = none := by
  cases hv : F b with
  | none => rfl
  | some x => have := h.lt hv; omega
abbrev Sl := List (Nat × Value)
def look : Sl → Nat → Option Value
  | [], _ => none
  | (k, v) :: r, t => bif Nat.beq k t then some v else look r t
def upd (m : Sl) : Option Tmp → Value → Sl
  | some d, v => (d, v) :: m
  | none, _ => m
def ev (m : Sl) : Operand → Option Value
  | .tmp t => look m t
  | .const v => some v
  | .global g => some (.pointer (some ⟨g, 0, none⟩))
  | .func f => some (.func (.func f) #[] #[])
def evs (m : Sl) : List Operand → Option (List Value)
  | [] => some []
  | x :: r => match ev m x, evs m r with
    | some v, some l => some (v :: l)
    | _, _ => none
def dstOk (N : Nat) (d : Option Tmp) : Bool := match d with | some d => Nat.blt d N | none => true
structure Slots (N : Nat) (m : Sl) (a : Act) : Prop where
  size : a.tmps.size = N
  df : a.defers = Df.ds
  get : ∀ t v, look m t = some v → a.tmps[t]? = some v
theorem Slots.ev {N : Nat} {m : Sl} {a : Act} (h : Slots N m a) {x : Operand} {v : Value} (hx : ev m x = some v) : a.eval x = v := by
  cases x with
  | tmp t => have := h.get t v hx; simp [Act.eval, this]
  | const v' => simpa [Go.Proofs.YtfdgciidfohhgaaGreatDoor.ev, Act.eval] using hx
  | global g => simpa [Go.Proofs.YtfdgciidfohhgaaGreatDoor.ev, Act.eval] using hx
  | func f => simpa [Go.Proofs.YtfdgciidfohhgaaGreatDoor.ev, Act.eval] using hx
theorem Slots.evs {N : Nat} {m : Sl} {a : Act} (h : Slots N m a) : ∀ {l : List Operand} {vs : List Value}, evs m l = some vs → l.map a.eval = vs
  | [], vs, e => by simpa [Go.Proofs.YtfdgciidfohhgaaGreatDoor.evs] using e
  | x :: l, vs, e => by
    unfold Go.Proofs.YtfdgciidfohhgaaGreatDoor.evs at e
    cases hx : Go.Proofs.YtfdgciidfohhgaaGreatDoor.ev m x with
    | none => rw [hx] at e; simp at e
    | some v =>
      cases hl : Go.Proofs.YtfdgciidfohhgaaGreatDoor.evs m l with
      | none => rw [hx, hl] at e; simp at e
      | some r =>
        rw [hx, hl] at e
        simp only [Option.some.injEq] at e
        subst e
        rw [List.map_cons, h.ev hx, h.evs hl]
theorem Slots.put {N : Nat} {m : Sl} {a : Act} (h : Slots N m a) {d : Option Tmp} (hd : dstOk N d = true) (v : Value) : Slots N (upd m d v) (a.put d v) := by
  cases d with
  | none => exact h
  | some d =>
    have hd' : d < N := by simpa [dstOk] using hd
    refine ⟨by simp [Act.put, h.size], h.df, fun t u ht => ?_⟩
    simp only [upd, look] at ht
    cases hb : Nat.beq d t with
    | true =>
      rw [hb] at ht
      have : d = t := by simpa using hb
      subst this
      have : v = u := by simpa using ht
      subst this
      simp [Act.put, h.size, hd']
    | false =>
      rw [hb] at ht
      have hne : d ≠ t := by intro e; subst e; simp at hb
      have := h.get t u (by simpa using ht)
      simp [Act.put, Array.getElem?_setIfInBounds_ne hne, this]
def SubSl (m : Sl) : Sl → Prop
  | [] => True
  | (t, v) :: r => look m t = some v ∧ SubSl m r
theorem Slots.sub {N : Nat} {m : Sl} {a : Act} (h : Slots N m a) : ∀ {m' : Sl}, SubSl m m' → Slots N m' a
  | [], _ => ⟨h.size, h.df, fun t v e => by simp [look] at e⟩
  | (k, u) :: r, ⟨h1, h2⟩ => by
    refine ⟨h.size, h.df, fun t v e => ?_⟩
    simp only [look] at e
    cases hb : Nat.beq k t with
    | true =>
      rw [hb] at e
      have : k = t := by simpa using hb
      subst this
      have : u = v := by simpa using e
      subst this
      exact h.get _ _ h1
    | false => rw [hb] at e; exact (h.sub h2).get t v (by simpa using e)
structure Env where
  w0 : World
  F0 : Gs
  bs : List (Nat × Obj)
  G : Gs → Prop
structure StF (E : Env) (w : World) (F : Gs) : Prop where
  le : Gs.le E.F0 F
  old : ∀ b, b < E.w0.heap.size → F b = E.F0 b
  fits : Fits F w
  ext : Exd E.w0 w
  bx : ∀ k ∈ E.bs, w.heap[k.1]? = some k.2 ∧ E.w0.heap.size ≤ k.1 ∧ F k.1 = none
  nd : (E.bs.map (·.1)).Nodup
  g : ∀ F', Gs.le F F' → E.G F'
def St (E : Env) (w : World) : Prop := ∃ F, StF E w F
theorem StF.drew {E : Env} {w : World} {F : Gs} (h : StF E w F) : StF E w.drew F := ⟨h.le, h.old, h.fits.drew, h.ext.drew, h.bx, h.nd, h.g⟩
theorem St.drew {E : Env} {w : World} (h : St E w) : St E w.drew := h.imp fun _ h => h.drew
theorem StF.hG {E : Env} {w : World} {F : Gs} (h : StF E w F) : E.G F := h.g F (Gs.le_refl F)
theorem St.start {w : World} {F : Gs} (hf : Fits F w) {G : Gs → Prop} (hg : ∀ F', Gs.le F F' → G F') : St ⟨w, F, [], G⟩ w :=
  ⟨F, Gs.le_refl F, fun _ _ => rfl, hf, Exd.refl w, fun _ h => (by cases h), List.nodup_nil, hg⟩
theorem St.imp {w0 : World} {F0 : Gs} {bs bs' : List (Nat × Obj)} {G G' : Gs → Prop} {w : World} (h : St ⟨w0, F0, bs, G⟩ w) (hb : bs'.Sublist bs) (hg : ∀ F, G F → G' F) : St ⟨w0, F0, bs', G'⟩ w := by
  obtain ⟨F, h⟩ := h
  exact ⟨F, h.le, h.old, h.fits, h.ext, fun k hk => h.bx k (hb.subset hk), (hb.map _).nodup h.nd, fun F' hF' => hg F' (h.g F' hF')⟩
theorem St.impG {w0 : World} {F0 : Gs} {bs : List (Nat × Obj)} {G G' : Gs → Prop} {w : World} (h : St ⟨w0, F0, bs, G⟩ w) (hg : ∀ F, G F → G' F) : St ⟨w0, F0, bs, G'⟩ w := h.imp (List.Sublist.refl _) hg
theorem nodup_mid {α : Type} {x : α} {l r : List α} (h : (l ++ x :: r).Nodup) : x ∉ l ++ r ∧ (l ++ r).Nodup := by
  have h1 := h
  rw [List.nodup_append] at h1
  obtain ⟨a, b, c⟩ := h1
  obtain ⟨d, e⟩ := List.nodup_cons.1 b
  refine ⟨fun hx => ?_, ?_⟩
  · rcases List.mem_append.1 hx with hx | hx
    · exact c x hx x (by simp) rfl
    · exact d hx
  · rw [List.nodup_append]
    exact ⟨a, e, fun y hy z hz => c y hy z (by simp [hz])⟩
theorem St.alloc {w0 : World} {F0 : Gs} {bs : List (Nat × Obj)} {G : Gs → Prop} {w : World} (h : St ⟨w0, F0, bs, G⟩ w) (o : Obj) (ho : ∀ c fr, o ≠ .cells c 231 fr) : St ⟨w0, F0, (w.heap.size, o) :: bs, G⟩ (w.alloc o) := by
  obtain ⟨F, h⟩ := h
  have hne : ∀ k ∈ bs, k.1 ≠ w.heap.size := fun k hk e => by
    have := (h.bx k hk).1
    rw [e, Array.getElem?_eq_none (Nat.le_refl _)] at this; cases this
  refine ⟨F, ⟨h.le, h.old, ⟨fun b c T hb => ?_, fun b c fr hb => ?_⟩, h.ext.alloc o, fun k hk => ?_, ?_, h.g⟩⟩
  · obtain ⟨fr, e⟩ := h.fits.row b c T hb
    exact ⟨fr, by rw [Below.heap_alloc _ _ _ (h.fits.lt hb)]; exact e⟩
  · rcases Nat.lt_or_ge b w.heap.size with g | g
    · rw [Below.heap_alloc _ _ _ g] at hb; exact h.fits.all b c fr hb
    · have hb' : (w.heap.push o)[b]? = some (.cells c 231 fr) := hb
      rw [Array.getElem?_push] at hb'
      split at hb'
      · exact absurd (Option.some.inj hb') (ho c fr)
      · rw [Array.getElem?_eq_none g] at hb'; cases hb'
  · rcases List.mem_cons.1 hk with rfl | hk
    · exact ⟨by show (w.heap.push o)[w.heap.size]? = _; simp, h.ext.size, h.fits.none (Nat.le_refl _)⟩
    · obtain ⟨h1, h2, h3⟩ := h.bx k hk
      have hlt : k.1 < w.heap.size := by
        rcases Nat.lt_or_ge k.1 w.heap.size with g | g
        · exact g
        · rw [Array.getElem?_eq_none g] at h1; cases h1
      exact ⟨by rw [Below.heap_alloc _ _ _ hlt]; exact h1, h2, h3⟩
  · show (w.heap.size :: bs.map (·.1)).Nodup
    refine List.nodup_cons.2 ⟨fun hm => ?_, h.nd⟩
    obtain ⟨k, hk, e⟩ := List.mem_map.1 hm
    exact hne k hk e
theorem StF.freeze {w0 : World} {F0 : Gs} {pre post : List (Nat × Obj)} {b : Nat} {c : Array Value} {T : TypeId} {fr : Nat × Nat} {G : Gs → Prop} {w : World} {F : Gs} (h : StF ⟨w0, F0, pre ++ (b, .cells c T fr) :: post, G⟩ w F) :
    StF ⟨w0, F0, pre ++ post, G⟩ w (fun i => if i = b then some (c, T) else F i) ∧ Gs.le F (fun i => if i = b then some (c, T) else F i) := by
  obtain ⟨h1, h2, h3⟩ := h.bx (b, .cells c T fr) (by simp)
  have hle : Gs.le F (fun i => if i = b then some (c, T) else F i) := fun i x hx => by
    by_cases e : i = b
    · subst e; rw [h3] at hx; cases hx
    · show (if i = b then _ else _) = _
      rw [if_neg e]; exact hx
  have hnd := h.nd
  simp only [List.map_append, List.map_cons] at hnd
  have hnd2 := (nodup_mid hnd)
  refine ⟨⟨Gs.le_trans h.le hle, fun i hi => ?_, ⟨fun i c' T' hi => ?_, fun i c' fr' hi => ?_⟩, h.ext, fun k hk => ?_, ?_, fun F' hF' => h.g F' (Gs.le_trans hle hF')⟩, hle⟩
  · have : i ≠ b := by rintro rfl; exact absurd hi (Nat.not_lt.2 h2)
    rw [if_neg this]; exact h.old i hi
  · by_cases e : i = b
    · subst e
      rw [if_pos rfl] at hi
      cases hi
      exact ⟨fr, h1⟩
    · rw [if_neg e] at hi; exact h.fits.row i c' T' hi
  · by_cases e : i = b
    · subst e
      have := h1.symm.trans hi
      cases this
      rw [if_pos rfl]
    · rw [if_neg e]; exact h.fits.all i c' fr' hi
  · obtain ⟨g1, g2, g3⟩ := h.bx k (by
      rcases List.mem_append.1 hk with h | h
      · simp [h]
      · simp [h])
    refine ⟨g1, g2, ?_⟩
    have hkb : k.1 ≠ b := by
      rintro rfl
      refine hnd2.1 ?_
      rw [← List.map_append]; exact List.mem_map_of_mem hk
    rw [if_neg hkb]; exact g3
  · show ((pre ++ post).map (·.1)).Nodup
    rw [List.map_append]; exact hnd2.2
theorem St.freeze {w0 : World} {F0 : Gs} (pre : List (Nat × Obj)) {post : List (Nat × Obj)} {b : Nat} {c : Array Value} {T : TypeId} {fr : Nat × Nat} {G : Gs → Prop} {w : World} (h : St ⟨w0, F0, pre ++ (b, .cells c T fr) :: post, G⟩ w) :
    St ⟨w0, F0, pre ++ post, fun F => G F ∧ F b = some (c, T)⟩ w := by
  obtain ⟨F, h⟩ := h
  obtain ⟨h1, hle⟩ := h.freeze
  exact ⟨_, h1.le, h1.old, h1.fits, h1.ext, h1.bx, h1.nd, fun F' hF' => ⟨h1.g F' hF', hF' b _ (by show (if b = b then _ else _) = _; rw [if_pos rfl])⟩⟩
theorem St.write {w0 : World} {F0 : Gs} (pre : List (Nat × Obj)) {post : List (Nat × Obj)} {b : Nat} {o o' : Obj} {G : Gs → Prop} {w w' : World} (h : St ⟨w0, F0, pre ++ (b, o) :: post, G⟩ w)
    (hw : w'.heap = w.heap.setIfInBounds b o' ∧ w'.os = w.os ∧ w'.tape = w.tape ∧ w'.output = w.output ∧ w'.drawn = w.drawn) (ho : ∀ c fr, o' ≠ .cells c 231 fr) : St ⟨w0, F0, pre ++ (b, o') :: post, G⟩ w' := by
  obtain ⟨F, h⟩ := h
  obtain ⟨h1, h2, h3⟩ := h.bx (b, o) (by simp)
  have hlt : b < w.heap.size := by
    rcases Nat.lt_or_ge b w.heap.size with g | g
    · exact g
    · rw [Array.getElem?_eq_none g] at h1; cases h1
  have hne : ∀ i, i ≠ b → w'.heap[i]? = w.heap[i]? := fun i hi => by rw [hw.1, Array.getElem?_setIfInBounds_ne (Ne.symm hi)]
  have heq : w'.heap[b]? = some o' := by rw [hw.1]; simp [hlt]
  have hsz : w'.heap.size = w.heap.size := by rw [hw.1]; simp
  have hnd := h.nd
  simp only [List.map_append, List.map_cons] at hnd
  have hnd2 := (nodup_mid hnd)
  refine ⟨F, ⟨h.le, h.old, ⟨fun i c T hi => ?_, fun i c fr hi => ?_⟩, ⟨Ext.trans0 h.ext.toBelow ?_ ?_ ?_ ?_ ?_, fun d => by rw [hw.2.2.2.2]; exact h.ext.dr d⟩, fun k hk => ?_, ?_, h.g⟩⟩
  · have : i ≠ b := by rintro rfl; rw [h3] at hi; cases hi
    rw [hne i this]; exact h.fits.row i c T hi
  · by_cases e : i = b
    · subst e; rw [heq] at hi; exact absurd (Option.some.inj hi) (ho c fr)
    · rw [hne i e] at hi; exact h.fits.all i c fr hi
  · exact hw.2.1
  · exact hw.2.2.1
  · exact hw.2.2.2.1
  · omega
  · intro i hi
    exact hne i (by rintro rfl; exact absurd hi (Nat.not_lt.2 h2))
  · have key : k = (b, o') ∨ k ∈ pre ++ post := by
      rcases List.mem_append.1 hk with h | h
      · exact .inr (by simp [h])
      · rcases List.mem_cons.1 h with h | h
        · exact .inl h
        · exact .inr (by simp [h])
    rcases key with rfl | hk'
    · exact ⟨heq, h2, h3⟩
    · obtain ⟨g1, g2, g3⟩ := h.bx k (by
        rcases List.mem_append.1 hk' with h | h
        · simp [h]
        · simp [h])
      have hkb : k.1 ≠ b := by
        rintro rfl
        refine hnd2.1 ?_
        rw [← List.map_append]; exact List.mem_map_of_mem hk'
      exact ⟨by rw [hne _ hkb]; exact g1, g2, g3⟩
  · show ((pre ++ (b, o') :: post).map (·.1)).Nodup
    simp only [List.map_append, List.map_cons]
    exact hnd
end
end Go.Proofs.YtfdgciidfohhgaaGreatDoor

namespace Go.Proofs.YtfdgciidfohhgaaGreatDoor
open Go.RowKit
section
variable [Dr] [df : Df]
section
variable {P : Program} {Q : Exit → Act → World → Prop} {N : Nat} {m : Sl} {E : Env}
def Fin (Q : Exit → Act → World → Prop) (e : Exit) (N : Nat) (m : Sl) (E : Env) : Prop := ∀ a w, Slots N m a → St E w → Q e a w
def J (P : Program) (c : Code) (Q : Exit → Act → World → Prop) (N : Nat) (m : Sl) (E : Env) : Prop := ∀ a w, Slots N m a → St E w → c.wp P Q a w
def JS (P : Program) (ops : Array Oper) (Q : Exit → Act → World → Prop) (l : List Oper) (N : Nat) (m : Sl) (E : Env) : Prop := ∀ a w, Slots N m a → St E w → wpList P ops Q l a w
def JD (P : Program) (ops : Array Oper) (Q : Exit → Act → World → Prop) (E0 : Env) (l : List Oper) (N : Nat) (m : Sl) (E : Env) : Prop := (∀ w, St E w → St E0 w) → ∀ a w, Slots N m a → St E w → lexL P ops Q (St E0) l a w
theorem J_seq {x y : Code} (h : J P x (Exit.then (y.wp P Q) Q) N m E) : J P (.seq x y) Q N m E := fun a w ha hw => wp_seq (h a w ha hw)
theorem J_block {id : Nat} {c : Code} (h : J P c (Exit.inBlock id Q) N m E) : J P (.block id c) Q N m E := fun a w ha hw => wp_block (h a w ha hw)
theorem J_skip (h : Fin Q .normal N m E) : J P .skip Q N m E := fun a w ha hw => wp_skip (h a w ha hw)
theorem J_exit {id : Nat} (h : Fin Q (.exit id) N m E) : J P (.exit id) Q N m E := fun a w ha hw => wp_exit (h a w ha hw)
theorem J_ret (h : Fin Q .ret N m E) : J P .ret Q N m E := fun a w ha hw => wp_ret (h a w ha hw)
theorem J_cond {c : Operand} {x y : Code} {t : Bool} (hc : ev m c = some (.bool t)) (ht : t = true → J P x Q N m E) (hf : t = false → J P y Q N m E) : J P (.cond c x y) Q N m E :=
  fun a w ha hw => wp_cond_split (ha.ev hc) (fun h => ht h a w ha hw) (fun h => hf h a w ha hw)
theorem J_condF {c : Operand} {x y : Code} (hc : ev m c = some (.bool false)) (h : J P y Q N m E) : J P (.cond c x y) Q N m E := J_cond hc (fun h => by cases h) (fun _ => h)
theorem F_then {y : Code} (h : J P y Q N m E) : Fin (Exit.then (y.wp P Q) Q) .normal N m E := h
theorem F_then_exit {K : Act → World → Prop} {id : Nat} (h : Fin Q (.exit id) N m E) : Fin (Exit.then K Q) (.exit id) N m E := h
theorem F_then_ret {K : Act → World → Prop} (h : Fin Q .ret N m E) : Fin (Exit.then K Q) .ret N m E := h
theorem F_block {id : Nat} (h : Fin Q .normal N m E) : Fin (Exit.inBlock id Q) .normal N m E := h
theorem F_block_ret {id : Nat} (h : Fin Q .ret N m E) : Fin (Exit.inBlock id Q) .ret N m E := h
theorem F_block_hit {id : Nat} (h : Fin Q .normal N m E) : Fin (Exit.inBlock id Q) (.exit id) N m E := fun a w ha hw => by simp only [Exit.inBlock, if_true]; exact h a w ha hw
theorem F_block_miss {id id' : Nat} (hid : Nat.beq id' id = false) (h : Fin Q (.exit id') N m E) : Fin (Exit.inBlock id Q) (.exit id') N m E := fun a w ha hw => by
  have : id' ≠ id := by rintro rfl; simp at hid
  simp only [Exit.inBlock, if_neg this]; exact h a w ha hw
def Again {ι : Type} (N : Nat) (w0 : World) (F0 : Gs) (M : ι → Sl) (B : ι → List (Nat × Obj)) (H : ι → Gs → Prop) (μ : ι → Nat) (i : ι) (a : Act) (w : World) : Prop :=
  ∃ j, μ j < μ i ∧ Slots N (M j) a ∧ St ⟨w0, F0, B j, H j⟩ w
theorem J_loop {ι : Type} {w0 : World} {F0 : Gs} {bs : List (Nat × Obj)} {G : Gs → Prop} {c : Code} (M : ι → Sl) (B : ι → List (Nat × Obj)) (H : ι → Gs → Prop) (μ : ι → Nat) (i0 : ι)
    (hm : SubSl m (M i0)) (hb : (B i0).Sublist bs) (hg : ∀ F, G F → H i0 F)
    (round : ∀ i, J P c (Exit.then (Again N w0 F0 M B H μ i) Q) N (M i) ⟨w0, F0, B i, H i⟩) : J P (.loop c) Q N m ⟨w0, F0, bs, G⟩ := by
  intro a w ha hw
  refine wp_loop_ghost (fun n a w => ∃ i, μ i = n ∧ Slots N (M i) a ∧ St ⟨w0, F0, B i, H i⟩ w) (μ i0) ⟨i0, rfl, ha.sub hm, hw.imp hb hg⟩ ?_
  rintro n a w ⟨i, rfl, ha, hw⟩
  refine wp_mono (round i a w ha hw) ?_
  intro e a' w' h
  cases e with
  | normal => obtain ⟨j, h1, h2, h3⟩ := h; exact ⟨μ j, h1, j, rfl, h2, h3⟩
  | _ => exact h
theorem F_again {ι : Type} {w0 : World} {F0 : Gs} {bs : List (Nat × Obj)} {G : Gs → Prop} {M : ι → Sl} {B : ι → List (Nat × Obj)} {H : ι → Gs → Prop} {μ : ι → Nat} {i : ι} (j : ι) (hμ : μ j < μ i)
    (hm : SubSl m (M j)) (hb : (B j).Sublist bs) (hg : ∀ F, G F → H j F) : Fin (Exit.then (Again N w0 F0 M B H μ i) Q) .normal N m ⟨w0, F0, bs, G⟩ :=
  fun a w ha hw => ⟨j, hμ, ha.sub hm, hw.imp hb hg⟩
theorem J_region {id : Nat} {l : List Oper} (h : JS P l.toArray Q l N m E) : J P (.region id l.toArray false) Q N m E := fun a w ha hw => wp_region_lit (h a w ha hw)
variable {ops : Array Oper} {l : List Oper} {E0 : Env}
theorem JS_nil (h : Fin Q .normal N m E) : JS P ops Q [] N m E := h
def Qt (P : Program) (N : Nat) (m : Sl) (S : World → Prop) (o : Op) (ty : TypeId) (v : Value) : Prop := ∀ a w d pos aft g, Slots N m a → S w → (execOp a.eval ⟨d, o, ty, pos, aft, g⟩).run P w = .ok (.value v) w
variable {d : Nat} {o : Op} {ty : TypeId} {pos : String} {aft : Array Edge} {v : Value}
theorem JS_q (h : Qt P N m (St E) o ty v) (k : JS P ops Q l N ((d, v) :: m) E) (hd : dstOk N (some d) = true := by rfl) : JS P ops Q (⟨some d, o, ty, pos, aft, none⟩ :: l) N m E := by
  intro a w ha hw
  refine wpList_plain rfl fun K hK => ?_
  unfold Oper.wp
  rw [h a w _ _ _ _ ha hw]
  exact hK _ _ (k _ w (ha.put hd v) hw)
theorem JD_q (h : Qt P N m (St E0) o ty v) (k : JD P ops Q E0 l N ((d, v) :: m) E) (hq : quietOp o = true := by rfl) (hd : dstOk N (some d) = true := by rfl) : JD P ops Q E0 (⟨some d, o, ty, pos, aft, none⟩ :: l) N m E := by
  intro hE a w ha hw
  exact .inl ⟨hq, v, .inl ⟨rfl, fun w' hw' => h a w' _ _ _ _ ha hw'⟩, k hE _ w (ha.put hd v) hw⟩
theorem yielded_look {a : Act} (ha : Slots N m a) {g t : Nat} {b : Bool} (hg : (ops[g]?).bind (·.dst) = some t) (hb : look m t = some (.bool b)) : yielded ops a.tmps g = some b := by
  unfold yielded
  rw [hg]
  have := ha.get t _ hb
  simp [this]
theorem JS_g {d : Option Tmp} {g t : Nat} {b want : Bool} (hg : (ops[g]?).bind (·.dst) = some t) (hb : look m t = some (.bool b)) (ht : b = want → JS P ops Q (⟨d, o, ty, pos, aft, none⟩ :: l) N m E) (hf : b = !want → JS P ops Q l N (upd m d undef) E)
    (hd : dstOk N d = true := by rfl) : JS P ops Q (⟨d, o, ty, pos, aft, some (g, want)⟩ :: l) N m E := by
  intro a w ha hw
  unfold wpList
  have hy := yielded_look ha hg hb
  by_cases e : b = want
  · have := ht e a w ha hw
    unfold wpList at this
    rw [if_pos (by simp [Region.wanted])] at this
    rw [if_pos (by simp [Region.wanted, hy, e])]
    exact this
  · rw [if_neg (by simp [Region.wanted, hy, e])]
    exact hf (by cases b <;> cases want <;> simp_all) _ w (ha.put hd undef) hw
theorem JD_g {d : Option Tmp} {g t : Nat} {b want : Bool} (hg : (ops[g]?).bind (·.dst) = some t) (hb : look m t = some (.bool b)) (ht : b = want → JD P ops Q E0 (⟨d, o, ty, pos, aft, none⟩ :: l) N m E) (hf : b = !want → JD P ops Q E0 l N (upd m d undef) E)
    (hd : dstOk N d = true := by rfl) : JD P ops Q E0 (⟨d, o, ty, pos, aft, some (g, want)⟩ :: l) N m E := by
  intro hE a w ha hw
  have hy := yielded_look ha hg hb
  by_cases e : b = want
  · rcases ht e hE a w ha hw with ⟨h1, v, h2, h3⟩ | ⟨h1, h2⟩
    · refine .inl ⟨h1, v, ?_, h3⟩
      rcases h2 with ⟨_, h2⟩ | ⟨h2, _⟩
      · exact .inl ⟨by simp [Region.wanted, hy, e], h2⟩
      · simp [Region.wanted] at h2
    · refine .inr ⟨h1, ?_⟩
      rw [if_pos (by simp [Region.wanted])] at h2
      rw [if_pos (by simp [Region.wanted, hy, e])]
      exact h2
  · have hr := hf (by cases b <;> cases want <;> simp_all) hE _ w (ha.put hd undef) hw
    cases hq : quietOp o with
    | true => exact .inl ⟨hq, undef, .inr ⟨by simp [Region.wanted, hy, e], rfl⟩, hr⟩
    | false =>
      refine .inr ⟨hq, ?_⟩
      rw [if_neg (by simp [Region.wanted, hy, e])]
      exact ⟨hE w hw, hr⟩
end
end
end Go.Proofs.YtfdgciidfohhgaaGreatDoor

namespace Go.Proofs.YtfdgciidfohhgaaGreatDoor
open Go.RowKit
section
variable [Dr] [df : Df]
def aggB (d : TypeDesc) : Bool := match d with | .struct _ | .array _ _ => true | _ => false
def tyB (P : Program) (T : TypeId) : Option (Bool × Nat) := match P.underlying T, P.info? T with
  | some d, some i => some (aggB d, i.size)
  | _, _ => none
theorem tyB_agg {P : Program} {T : TypeId} {g : Bool} {n : Nat} (h : tyB P T = some (g, n)) (w : World) : (isAgg T).run P w = .ok g w := by
  unfold tyB at h
  split at h
  · rename_i d i hd hi
    cases h
    unfold isAgg
    rw [Sem.run_bind, run_underlying hd w]
    cases d <;> rfl
  · cases h
theorem tyB_size {P : Program} {T : TypeId} {g : Bool} {n : Nat} (h : tyB P T = some (g, n)) (w : World) : (sizeOf T).run P w = .ok n w := by
  unfold tyB at h
  split at h
  · rename_i d i hd hi
    cases h
    simp [sizeOf, typeInfo, hi]
  · cases h
inductive Get : List Value → Nat → List Value → Prop
  | nil {l : List Value} : Get l 0 []
  | here {x : Value} {l vs : List Value} : Get l 0 vs → Get (x :: l) 0 (x :: vs)
  | skip {x : Value} {l vs : List Value} {n : Nat} : Get l n vs → Get (x :: l) (n + 1) vs
theorem Get.at {l vs : List Value} {n : Nat} (h : Get l n vs) : ∀ (j : Nat) (v : Value), vs[j]? = some v → l[n + j]? = some v := by
  induction h with
  | nil => intro j v hv; simp at hv
  | here h ih =>
    intro j v hv
    cases j with
    | zero => simpa using hv
    | succ j =>
      have := ih j v (by simpa using hv)
      rw [show 0 + (j + 1) = (0 + j) + 1 by omega]; simpa using this
  | skip h ih =>
    intro j v hv
    have := ih j v hv
    rw [Nat.add_right_comm]; simpa using this
inductive Put : List Value → Nat → List Value → List Value → Prop
  | nil {l : List Value} : Put l 0 [] l
  | here {x v : Value} {l vs l' : List Value} : Put l 0 vs l' → Put (x :: l) 0 (v :: vs) (v :: l')
  | skip {x : Value} {l vs l' : List Value} {n : Nat} : Put l n vs l' → Put (x :: l) (n + 1) vs (x :: l')
theorem Put.le {l vs l' : List Value} {n : Nat} (h : Put l n vs l') : n + vs.length ≤ l.length := by
  induction h <;> simp_all <;> omega
theorem Put.eq {l vs l' : List Value} {n : Nat} (h : Put l n vs l') : l' = l.take n ++ vs ++ l.drop (n + vs.length) := by
  induction h with
  | nil => simp
  | here h ih => simp at ih ⊢; exact ih
  | skip h ih =>
    rw [Nat.add_right_comm]
    simpa using ih
inductive Own : List (Nat × Obj) → Nat → Obj → (Obj → List (Nat × Obj)) → Prop
  | here {b : Nat} {o : Obj} {r : List (Nat × Obj)} : Own ((b, o) :: r) b o (fun o' => (b, o') :: r)
  | there {x : Nat × Obj} {l : List (Nat × Obj)} {b : Nat} {o : Obj} {f : Obj → List (Nat × Obj)} : Own l b o f → Own (x :: l) b o (fun o' => x :: f o')
theorem Own.split {l : List (Nat × Obj)} {b : Nat} {o : Obj} {f : Obj → List (Nat × Obj)} (h : Own l b o f) : ∃ pre post, l = pre ++ (b, o) :: post ∧ ∀ o', f o' = pre ++ (b, o') :: post := by
  induction h with
  | here => exact ⟨[], _, rfl, fun _ => rfl⟩
  | there h ih =>
    obtain ⟨pre, post, h1, h2⟩ := ih
    exact ⟨_ :: pre, post, by rw [h1]; rfl, fun o' => by show _ :: _ = _; rw [h2]; rfl⟩
theorem Own.mem {l : List (Nat × Obj)} {b : Nat} {o : Obj} {f : Obj → List (Nat × Obj)} (h : Own l b o f) : (b, o) ∈ l := by
  obtain ⟨pre, post, h1, _⟩ := h.split; rw [h1]; simp
section
variable {P : Program} {Q : Exit → Act → World → Prop} {N : Nat} {m : Sl} {E E0 : Env} {ops : Array Oper} {l : List Oper} {w0 : World} {F0 : Gs} {bs : List (Nat × Obj)} {G : Gs → Prop}
theorem St.own {w : World} (h : St ⟨w0, F0, bs, G⟩ w) {b : Nat} {o : Obj} {f : Obj → List (Nat × Obj)} (ho : Own bs b o f) : w.heap[b]? = some o := by
  obtain ⟨F, h⟩ := h; exact (h.bx (b, o) ho.mem).1
section
variable {ty : TypeId} {v : Value} {S : World → Prop}
theorem q_move {x : Operand} (h : ev m x = some v) : Qt P N m S (.move x) ty v := fun a w _ _ _ _ ha _ => by
  show (Result.ok (Next.value (a.eval x)) w) = _; rw [ha.ev h]
theorem q_assign {x : Operand} (h : ev m x = some v) : Qt P N m S (.assign x) ty v := fun a w _ _ _ _ ha _ => by
  show (Result.ok (Next.value (a.eval x)) w) = _; rw [ha.ev h]
theorem q_pick {c x y : Operand} {b : Bool} {u : Value} (hc : ev m c = some (.bool b)) (hx : ev m x = some v) (hy : ev m y = some u) : Qt P N m S (.pick c x y) ty (if b then v else u) := fun a w _ _ _ _ ha _ => by
  simp only [execOp, ha.ev hc, ha.ev hx, ha.ev hy, asBool, pure_bind, Sem.run_pure]
theorem q_extract {x : Operand} {vs : Array Value} {i : Nat} (h : ev m x = some (.tuple vs)) (hi : vs[i]? = some v) : Qt P N m S (.extract x i) ty v := fun a w _ _ _ _ ha _ => by
  simp [execOp, ha.ev h, Instr.extract, hi]
theorem run_loadVar1 {T : TypeId} {n : Nat} (ht : tyB P T = some (false, n)) {w : World} {a : Addr} {v : Value} (h : w.cell? a = some v) : (loadVar T a).run P w = .ok v w := by
  simp [loadVar, tyB_agg ht, h]
theorem run_loadVarA {T : TypeId} {vs : List Value} {n : Nat} (ht : tyB P T = some (true, n)) (hn : vs.length = n) {w : World} {b off : Nat} (h : ∀ j v, vs[j]? = some v → w.cell? ⟨b, off + j, none⟩ = some v) : (loadVar T ⟨b, off, none⟩).run P w = .ok (.agg vs.toArray) w := by
  have hl := run_loadCells_list (P := P) w ⟨b, off, none⟩ vs (fun j v hv => by
    have hadd : (⟨b, off, none⟩ : Addr).add j = ⟨b, off + j, none⟩ := by unfold Addr.add; split <;> simp_all
    rw [hadd]; exact h j v hv)
  subst hn
  simp [loadVar, tyB_agg ht, tyB_size ht, hl]
theorem cell_of_own {w : World} {b o : Nat} {c : List Value} {T : TypeId} {fr : Nat × Nat} (h : w.heap[b]? = some (.cells c.toArray T fr)) : w.cell? ⟨b, o, none⟩ = c[o]? := by
  simp [World.cell?, h]
theorem cell_of_row {w : World} (h : St ⟨w0, F0, bs, G⟩ w) {b o : Nat} {c : Array Value} {T : TypeId} {v : Value} (hr : ∀ F, G F → F b = some (c, T)) (hv : c[o]? = some v) : w.cell? ⟨b, o, none⟩ = some v := by
  obtain ⟨F, h⟩ := h
  obtain ⟨fr, e⟩ := h.fits.row b c T (hr F h.hG)
  simp [World.cell?, e, hv]
end
def Enters (P : Program) (f : FuncId) : Prop := ∀ (args : Array Value) (w : World), (callFunc f args).run P w = .ok (.enter f args) w
theorem enters_of {f : FuncId} {fn : Func} (h : P.funcs[f]? = some fn) (hn : (fn.name == "runtime.NumGoroutine") = false) (hb : fn.body.isNone = false) : Enters P f := fun args w => by
  have hb' : fn.body ≠ none := by intro e; rw [e] at hb; cases hb
  simp [callFunc, h, hb', beq_eq_false_iff_ne.1 hn]
def GPost (w : World) (F : Gs) {γ : Type} (val : γ → Value) (fact : γ → Gs → Prop) (e : Ending) (w' : World) : Prop :=
  ∃ c F', e = .returned (val c) ∧ Exd w w' ∧ Gs.le F F' ∧ (∀ b, b < w.heap.size → F' b = F b) ∧ Fits F' w' ∧ ∀ F'', Gs.le F' F'' → fact c F''
def CallsG (P : Program) (f : FuncId) (args : List Value) (w : World) (F : Gs) {γ : Type} (val : γ → Value) (fact : γ → Gs → Prop) : Prop :=
  Enters P f ∧ Calls P f args.toArray w (GPost w F val fact)
theorem CallsG.imp {f : FuncId} {args : List Value} {w : World} {F : Gs} {γ γ' : Type} {val : γ → Value} {fact : γ → Gs → Prop} {val' : γ' → Value} {fact' : γ' → Gs → Prop} (h : CallsG P f args w F val fact)
    (k : ∀ c F', fact c F' → ∃ c', val c = val' c' ∧ ∀ F'', Gs.le F' F'' → fact' c' F'') : CallsG P f args w F val' fact' := by
  refine ⟨h.1, h.2.mono ?_⟩
  rintro e w' ⟨c, F', rfl, h1, h2, h3, h4, h5⟩
  obtain ⟨c', e, k'⟩ := k c F' (h5 F' (Gs.le_refl _))
  exact ⟨c', F', by rw [e], h1, h2, h3, h4, k'⟩
theorem StF.call {w w' : World} {F F' : Gs} (h : StF ⟨w0, F0, bs, G⟩ w F) {f : Gs → Prop} (h1 : Exd w w') (h2 : Gs.le F F') (h3 : ∀ b, b < w.heap.size → F' b = F b) (h4 : Fits F' w') (h5 : ∀ F'', Gs.le F' F'' → f F'') : StF ⟨w0, F0, bs, fun F => G F ∧ f F⟩ w' F' := by
  refine ⟨Gs.le_trans h.le h2, fun b hb => ?_, h4, h.ext.trans h1, fun k hk => ?_, h.nd, fun F'' hF => ⟨h.g F'' (Gs.le_trans h2 hF), h5 F'' hF⟩⟩
  · rw [h3 b (Nat.lt_of_lt_of_le hb h.ext.size)]; exact h.old b hb
  · obtain ⟨g1, g2, g3⟩ := h.bx k hk
    have hlt : k.1 < w.heap.size := by
      rcases Nat.lt_or_ge k.1 w.heap.size with g | g
      · exact g
      · rw [Array.getElem?_eq_none g] at g1; cases g1
    exact ⟨by rw [h1.block _ hlt]; exact g1, g2, by rw [h3 _ hlt]; exact g3⟩
theorem run_callOp {a : Act} {w : World} {d : Option Tmp} {x : Operand} {args : Array Operand} {tys : Array TypeId} {ty : TypeId} {pos : String} {aft : Array Edge} {gd : Option (Nat × Bool)} {f : FuncId} {c1 c2 : Array Value} (he : Enters P f) (hx : a.eval x = .func (.func f) c1 c2) :
    (execOp a.eval ⟨d, .call ⟨.value x, args, tys⟩, ty, pos, aft, gd⟩).run P w = .ok (.enter f (c1 ++ args.map a.eval ++ c2)) w := by
  simp only [execOp, resolve, hx, Deferred.ofValue, Sem.run_bind, Sem.run_pure, Result.andThen_ok, invoke]
  exact he _ w
section
variable {d : Nat} {ty : TypeId} {pos : String} {aft : Array Edge} {f : FuncId} {args : Array Operand} {tys : Array TypeId} {vs : List Value} {γ : Type} {val : γ → Value} {fact : γ → Gs → Prop}
theorem JS_callV {x : Operand} {c1 c2 : List Value} (hx : ev m x = some (.func (.func f) c1.toArray c2.toArray)) (hv : evs m args.toList = some vs) (hc : ∀ w F, Fits F w → G F → CallsG P f (c1 ++ vs ++ c2) w F val fact)
    (k : ∀ c, JS P ops Q l N ((d, val c) :: m) ⟨w0, F0, bs, fun F => G F ∧ fact c F⟩) (hd : dstOk N (some d) = true := by rfl) : JS P ops Q (⟨some d, .call ⟨.value x, args, tys⟩, ty, pos, aft, none⟩ :: l) N m ⟨w0, F0, bs, G⟩ := by
  intro a w ha hw
  obtain ⟨F, hF⟩ := hw
  have hcg := hc w F hF.fits hF.hG
  refine wpList_plain rfl fun K hK => ?_
  unfold Oper.wp
  rw [run_callOp hcg.1 (ha.ev hx)]
  have e : c1.toArray ++ args.map a.eval ++ c2.toArray = (c1 ++ vs ++ c2).toArray := by
    have := ha.evs hv
    have e2 : args.map a.eval = vs.toArray := by rw [← this]; apply Array.ext' ; simp
    rw [e2]; apply Array.ext'; simp
  simp only [Oper.upon]
  rw [e]
  refine hcg.2.mono ?_
  rintro e w' ⟨c, F', rfl, h1, h2, h3, h4, h5⟩
  exact hK _ _ (k c _ w' (ha.put hd (val c)) ⟨F', hF.call h1 h2 h3 h4 h5⟩)
theorem JS_call (hv : evs m args.toList = some vs) (hc : ∀ w F, Fits F w → G F → CallsG P f vs w F val fact)
    (k : ∀ c, JS P ops Q l N ((d, val c) :: m) ⟨w0, F0, bs, fun F => G F ∧ fact c F⟩) (hd : dstOk N (some d) = true := by rfl) : JS P ops Q (⟨some d, .call ⟨.value (.func f), args, tys⟩, ty, pos, aft, none⟩ :: l) N m ⟨w0, F0, bs, G⟩ :=
  JS_callV (x := .func f) (c1 := []) (c2 := []) rfl hv (by simpa using hc) k hd
end
end
end
end Go.Proofs.YtfdgciidfohhgaaGreatDoor

namespace Go.Proofs.YtfdgciidfohhgaaGreatDoor
open Go.RowKit
section
variable [Dr] [df : Df]
section
variable {P : Program} {Q : Exit → Act → World → Prop} {N : Nat} {m : Sl} {E E0 : Env} {ops : Array Oper} {l : List Oper} {w0 : World} {F0 : Gs} {bs : List (Nat × Obj)} {G : Gs → Prop}
theorem St.pure {w : World} {p : Prop} (h : St ⟨w0, F0, bs, G⟩ w) (hp : ∀ w F, Fits F w → G F → p) : p := by
  obtain ⟨F, h⟩ := h; exact hp w F h.fits h.hG
theorem JS_pure (p : Prop) (hp : ∀ w F, Fits F w → G F → p) (k : p → JS P ops Q l N m ⟨w0, F0, bs, G⟩) : JS P ops Q l N m ⟨w0, F0, bs, G⟩ := fun a w ha hw => k (hw.pure hp) a w ha hw
def zeroB (P : Program) (T : TypeId) : Option (List Value) := match P.info? T with
  | some i => i.zero.map fun v => v.cells.toList
  | none => none
theorem run_zero {T : TypeId} {z : List Value} (h : zeroB P T = some z) (w : World) : ∃ v, (zeroValue T).run P w = .ok v w ∧ v.cells = z.toArray := by
  unfold zeroB at h
  split at h
  · rename_i i hi
    cases hz : i.zero with
    | none => rw [hz] at h; cases h
    | some v =>
      rw [hz] at h
      simp only [Option.map_some, Option.some.injEq] at h
      exact ⟨v, by simp [zeroValue, typeInfo, hi, hz], by rw [← h]⟩
  · cases h
def notU (T : TypeId) : Bool := !(Nat.beq T 231)
theorem notU_cells {T : TypeId} (h : notU T = true) {c : Array Value} {fr : Nat × Nat} : ∀ c' fr', Obj.cells c T fr ≠ .cells c' 231 fr' := by
  intro c' fr' e
  injection e with _ h2 _
  subst h2; simp [notU] at h
section
variable {d : Nat} {ty : TypeId} {pos : String} {aft : Array Edge}
theorem upon_value {o : Oper} {a : Act} {w w' : World} {K : Act → World → Prop} {v : Value} (h : (execOp a.eval o).run P w = .ok (.value v) w') (k : K (a.put o.dst v) w') : o.wp P a w K Q := by
  unfold Oper.wp; rw [h]; exact k
theorem run_buildSlice {w : World} {t e : TypeId} {n sz : Nat} {z : List Value} {g : Bool} {parts : Array (Nat × Value)} {cs : Array Value} (ht : P.underlying t = some (.slice e)) (hs : tyB P e = some (g, sz)) (hz : zeroB P e = some z) (h24 : n * sz ≤ 2 ^ 24) (hn : n * sz ≠ 0)
    (hf : Instr.fill (fun i => some (i * sz, sz)) ((Array.range (n * sz)).map (fun i => z.toArray[i % z.toArray.size]!)) parts.toList = some cs) :
    (Instr.buildSlice t n parts).run P w = .ok (.slice (some ⟨w.heap.size, 0, none⟩) n n) (w.alloc (.cells cs e)) := by
  obtain ⟨v, h1, h2⟩ := run_zero hz w
  have h3 : ¬ n * sz > 2 ^ 24 := by omega
  simp only [Instr.buildSlice, Sem.run_bind, run_underlying ht, Result.andThen_ok, tyB_size hs, if_neg h3, Sem.run_pure, if_neg hn, h1, h2, hf, newRow, run_newObj]
  rfl
def partsV (m : Sl) : List (Nat × Operand) → Option (List (Nat × Value))
  | [] => some []
  | (i, x) :: r => match ev m x, partsV m r with
    | some v, some l => some ((i, v) :: l)
    | _, _ => none
theorem Slots.parts {a : Act} (h : Slots N m a) : ∀ {l : List (Nat × Operand)} {vs : List (Nat × Value)}, partsV m l = some vs → l.map (fun (i, x) => (i, a.eval x)) = vs
  | [], vs, e => by simpa [partsV] using e
  | (i, x) :: l, vs, e => by
    unfold partsV at e
    cases hx : Go.Proofs.YtfdgciidfohhgaaGreatDoor.ev m x with
    | none => rw [hx] at e; simp at e
    | some v =>
      cases hl : partsV m l with
      | none => rw [hx, hl] at e; simp at e
      | some r =>
        rw [hx, hl] at e
        simp only [Option.some.injEq] at e
        subst e
        rw [List.map_cons, h.parts hl]
        show (i, a.eval x) :: r = _
        rw [h.ev hx]
def litCells (sz : Nat) : Nat → List (Nat × Value) → Option (List Value)
  | _, [] => some []
  | k, (i, v) :: r => if i = k ∧ v.cells.size = sz then (litCells sz (k + 1) r).map (v.cells.toList ++ ·) else none
theorem litCells_fill {sz : Nat} : ∀ (parts : List (Nat × Value)) (k : Nat) (cs : List Value) (cur : Array Value), litCells sz k parts = some cs → k * sz + cs.length = cur.size →
    Instr.fill (fun i => some (i * sz, sz)) cur parts = some (cur.toList.take (k * sz) ++ cs).toArray
  | [], k, cs, cur, h, hl => by
    simp only [litCells, Option.some.injEq] at h
    subst h
    simp only [List.length_nil, Nat.add_zero] at hl
    simp [Instr.fill, List.take_of_length_le, hl]
  | (i, v) :: r, k, cs, cur, h, hl => by
    simp only [litCells] at h
    split at h
    · rename_i hk
      obtain ⟨rfl, hv⟩ := hk
      cases hr : litCells sz (i + 1) r with
      | none => rw [hr] at h; cases h
      | some cs' =>
        rw [hr] at h
        simp only [Option.map_some, Option.some.injEq] at h
        subst h
        have hlen : v.cells.toList.length = sz := by simpa using hv
        rw [List.length_append, hlen] at hl
        have hmul : (i + 1) * sz = i * sz + sz := by rw [Nat.add_mul, Nat.one_mul]
        unfold Instr.fill
        simp only [hv, ne_eq, not_true_eq_false, Bool.false_or, decide_false, decide_eq_true_eq]
        rw [if_neg (by omega)]
        have hfold : ∀ (l : List Value) (j : Nat) (c : Array Value), i * sz + j + l.length ≤ c.size →
            ((l.zipIdx j).foldl (fun cs (x : Value × Nat) => cs.setIfInBounds (i * sz + x.2) x.1) c) = (c.toList.take (i * sz + j) ++ l ++ c.toList.drop (i * sz + j + l.length)).toArray := by
          intro l
          induction l with
          | nil => intro j c hc; simp
          | cons x l ih =>
            intro j c hc
            simp only [List.zipIdx_cons, List.foldl_cons, List.length_cons] at hc ⊢
            rw [ih (j + 1) _ (by simp; omega)]
            congr 1
            apply List.ext_getElem?
            intro q
            simp only [Array.toList_setIfInBounds, List.getElem?_append, List.length_append, List.length_take, List.length_set, Array.length_toList, List.length_cons]
            by_cases h1 : q < i * sz + j
            · have e1 : min (i * sz + (j + 1)) c.size = i * sz + j + 1 := by omega
              have e2 : min (i * sz + j) c.size = i * sz + j := by omega
              have e3 : q < i * sz + j + 1 + l.length := by omega
              have e4 : q < i * sz + j + (l.length + 1) := by omega
              have e5 : q < i * sz + j + 1 := by omega
              simp only [e1, e2, h1, e3, e4, e5, if_true]
              simp [show q < i * sz + (j + 1) by omega, h1, show i * sz + j ≠ q by omega]
            · by_cases h2 : q = i * sz + j
              · subst h2
                have e1 : min (i * sz + (j + 1)) c.size = i * sz + j + 1 := by omega
                have e2 : min (i * sz + j) c.size = i * sz + j := by omega
                have hlt : i * sz + j < c.toList.length := by simp; omega
                simp only [e1, e2, Nat.lt_irrefl, if_false, Nat.sub_self]
                simp [show i * sz + j < i * sz + j + 1 + l.length by omega, show i * sz + j < i * sz + j + 1 by omega, show i * sz + j < c.size by omega]
              · have e1 : min (i * sz + (j + 1)) c.size = i * sz + j + 1 := by omega
                have e2 : min (i * sz + j) c.size = i * sz + j := by omega
                have g1 : ¬ q < i * sz + j + 1 := by omega
                simp only [e1, e2, h1, g1, if_false]
                by_cases h3 : q < i * sz + j + 1 + l.length
                · simp only [h3, if_true, show q < i * sz + j + (l.length + 1) by omega]
                  rw [show q - (i * sz + j) = (q - (i * sz + j + 1)) + 1 by omega, List.getElem?_cons_succ]
                · simp only [h3, if_false, show ¬ q < i * sz + j + (l.length + 1) by omega]
                  rw [List.getElem?_drop, List.getElem?_drop, List.getElem?_set_ne (by omega)]
                  congr 1; omega
        have e := hfold v.cells.toList 0 cur (by rw [hlen]; omega)
        have e0 : v.cells.zipIdx.foldl (fun cs (x : Value × Nat) => cs.setIfInBounds (i * sz + x.2) x.1) cur = (v.cells.toList.zipIdx 0).foldl (fun cs (x : Value × Nat) => cs.setIfInBounds (i * sz + x.2) x.1) cur := by
          rw [← Array.foldl_toList]; simp
        rw [e0, e]
        have := litCells_fill r (i + 1) cs' (cur.toList.take (i * sz + 0) ++ v.cells.toList ++ cur.toList.drop (i * sz + 0 + v.cells.toList.length)).toArray hr (by simp [hv]; omega)
        rw [this]
        congr 2
        rw [← List.append_assoc]
        congr 1
        have hl2 : (cur.toList.take (i * sz) ++ v.cells.toList).length = (i + 1) * sz := by simp [hv]; omega
        simp only [Nat.add_zero]
        rw [List.take_append_of_le_length (by rw [hl2]; exact Nat.le_refl _), ← hl2, List.take_length]
    · cases h
theorem run_buildSliceOp {a : Act} {w : World} {t e : TypeId} {n sz : Nat} {z : List Value} {g : Bool} {parts : Array (Nat × Operand)} {ps : List (Nat × Value)} {cs : List Value} {gd : Option (Nat × Bool)} (ha : Slots N m a) (hp : partsV m parts.toList = some ps) (ht : P.underlying t = some (.slice e)) (hs : tyB P e = some (g, sz)) (hz : zeroB P e = some z)
    (hc : litCells sz 0 ps = some cs) (hl : cs.length = n * sz) (h24 : Nat.ble (n * sz) 16777216 = true) (hn : Nat.beq (n * sz) 0 = false) :
    (execOp a.eval ⟨some d, .buildSlice t n parts, ty, pos, aft, gd⟩).run P w = .ok (.value (.slice (some ⟨w.heap.size, 0, none⟩) n n)) (w.alloc (.cells cs.toArray e)) := by
  have e1 : (parts.map fun (i, x) => (i, a.eval x)).toList = ps := by simpa using ha.parts hp
  have hf := litCells_fill ps 0 cs ((Array.range (n * sz)).map (fun i => z.toArray[i % z.toArray.size]!)) hc (by simp [hl])
  have := run_buildSlice (P := P) (w := w) (n := n) (parts := parts.map fun (i, x) => (i, a.eval x)) ht hs hz (by have := Nat.le_of_ble_eq_true h24; omega) (fun e => by rw [e] at hn; cases hn) (by rw [e1]; exact hf)
  simp only [Nat.zero_mul, List.take_zero, List.nil_append] at this
  simp only [execOp, Sem.run_bind, this, Result.andThen_ok, Sem.run_pure]
end
section
variable {d : Option Tmp} {ty : TypeId} {pos : String} {aft : Array Edge}
theorem run_storeCells_at (g : Nat) (t : TypeId) : ∀ (vs : List Value) (i : Nat) (off : Nat) (cur l' : List Value) (w : World), w.heap[g]? = some (.cells cur.toArray t (0, 0)) → (∀ v ∈ vs, v.oneCell' = true) → Put cur (off + i) vs l' →
    ∃ w', (storeCells ⟨g, off, none⟩ vs i).run P w = .ok () w' ∧ w'.heap = w.heap.setIfInBounds g (.cells l'.toArray t (0, 0)) ∧ w'.os = w.os ∧ w'.tape = w.tape ∧ w'.output = w.output ∧ w'.drawn = w.drawn
  | [], i, off, cur, l', w, hg, _, hp => by
    have hlt : g < w.heap.size := by rcases Nat.lt_or_ge g w.heap.size with h | h; exact h; rw [Array.getElem?_eq_none h] at hg; cases hg
    have e : l' = cur := by have := hp.eq; simpa using this
    subst e
    refine ⟨w, rfl, ?_, rfl, rfl, rfl, rfl⟩
    apply Array.ext_getElem?
    intro k
    by_cases e : k = g
    · subst e; rw [hg]; simp [hlt]
    · rw [Array.getElem?_setIfInBounds_ne (Ne.symm e)]
  | v :: vs, i, off, cur, l', w, hg, h1, hp => by
    have hle := hp.le
    simp only [List.length_cons] at hle
    have hadd : (⟨g, off, none⟩ : Addr).add i = ⟨g, off + i, none⟩ := by unfold Addr.add; split <;> simp_all
    have hlt : g < w.heap.size := by rcases Nat.lt_or_ge g w.heap.size with h | h; exact h; rw [Array.getElem?_eq_none h] at hg; cases hg
    have hcell : w.cell? ⟨g, off + i, none⟩ = some (cur[off + i]'(by omega)) := by simp [World.cell?, hg, show off + i < cur.length by omega]
    have hfro : w.frozen? ⟨g, off + i, none⟩ = false := by simp [World.frozen?, hg]
    have hst : (store ((⟨g, off, none⟩ : Addr).add i) v).run P w = .ok () (w.setCell ⟨g, off + i, none⟩ v) := by
      rw [hadd, run_store P w _ v _ (h1 v (by simp)), hcell]; simp [hfro]
    have hheap : (w.setCell ⟨g, off + i, none⟩ v).heap = w.heap.setIfInBounds g (.cells (cur.set (off + i) v).toArray t (0, 0)) := by
      apply Array.ext_getElem?
      intro k
      by_cases e : k = g
      · subst e
        show (w.heap.modify k _)[k]? = _
        rw [Array.getElem?_modify, if_pos rfl, hg]; simp [hlt]
      · rw [Array.getElem?_setIfInBounds_ne (Ne.symm e)]; simp [World.setCell, Array.getElem?_modify, Ne.symm e]
    have hp2 : Put (cur.set (off + i) v) (off + (i + 1)) vs l' := by
      have key : ∀ (n : Nat) (cur l' : List Value), Put cur n (v :: vs) l' → Put (cur.set n v) (n + 1) vs l' := by
        intro n
        induction n with
        | zero => intro cur l' h; cases h with | here h => exact .skip h
        | succ n ih => intro cur l' h; cases h with | skip h => exact .skip (ih _ _ h)
      exact key _ _ _ hp
    obtain ⟨w', h2, h3, h4, h5, h6⟩ := run_storeCells_at g t vs (i + 1) off (cur.set (off + i) v) l' (w.setCell ⟨g, off + i, none⟩ v) (by rw [hheap]; simp [hlt]) (fun x hx => h1 x (by simp [hx])) hp2
    refine ⟨w', ?_, ?_, h4, h5, h6⟩
    · simp only [storeCells, Sem.run_bind, hst, Result.andThen_ok, h2]
    · rw [h3, hheap]; simp
def oneAll : List Value → Prop
  | [] => True
  | v :: r => v.oneCell' = true ∧ oneAll r
theorem oneAll_mem : ∀ {l : List Value}, oneAll l → ∀ v ∈ l, v.oneCell' = true
  | v :: l, ⟨h1, h2⟩, u, hu => by
    rcases List.mem_cons.1 hu with rfl | hu
    · exact h1
    · exact oneAll_mem h2 u hu
end
theorem J_lexW {id : Nat} {l : List Oper} {bs0 : List (Nat × Obj)} (hb0 : bs0.Sublist bs) (hm : P.follows .mixedOrders = true) (hB : lexB .any l = true) (h : JD P l.toArray (onlyN (Q .normal)) ⟨w0, F0, bs0, G⟩ l N m ⟨w0, F0, bs, G⟩) : J P (.region id l.toArray true) Q N m ⟨w0, F0, bs, G⟩ :=
  fun a w ha hw => wp_region_lex hm hB (hw.drew.imp hb0 fun _ h => h) (h (fun _ h => h.imp hb0 fun _ h => h) a _ ha hw.drew)
def argSl : Nat → List Value → Sl
  | _, [] => []
  | k, v :: r => (k, v) :: argSl (k + 1) r
theorem look_argSl : ∀ (args : List Value) (k t : Nat) (v : Value), look (argSl k args) t = some v → k ≤ t ∧ args[t - k]? = some v
  | [], k, t, v, h => by simp [argSl, look] at h
  | u :: r, k, t, v, h => by
    simp only [argSl, look] at h
    cases hb : Nat.beq k t with
    | true =>
      rw [hb] at h
      have : k = t := by simpa using hb
      subst this
      simpa using h
    | false =>
      rw [hb] at h
      obtain ⟨h1, h2⟩ := look_argSl r (k + 1) t v (by simpa using h)
      refine ⟨by omega, ?_⟩
      rw [show t - k = (t - (k + 1)) + 1 by omega]; simpa using h2
omit [Df] in
theorem CallsG.intro {f : FuncId} {fn : Func} {c : Code} {args : List Value} {w : World} {F : Gs} {γ : Type} {val : γ → Value} {fact : γ → Gs → Prop} {G : Gs → Prop} (hf : P.funcs[f]? = some fn) (hb : fn.body = some c) (hn : (fn.name == "runtime.NumGoroutine") = false) (hN : fn.ntmps = N) (hl : Nat.ble args.length N = true)
    (hw : Fits F w) (hg : ∀ F', Gs.le F F' → G F') (h : J (df := noDf) P c (bodyPost P fn (GPost w F val fact)) N (argSl 0 args) ⟨w, F, [], G⟩) : CallsG P f args w F val fact := by
  refine ⟨enters_of hf hn (by rw [hb]; rfl), calls_of_wp hf hb (h _ w ⟨?_, rfl, fun t v ht => ?_⟩ (St.start hw hg))⟩
  · have := Nat.le_of_ble_eq_true hl
    simp [hN]; omega
  · obtain ⟨_, h2⟩ := look_argSl args 0 t v ht
    have hlt : t < args.length := by rcases Nat.lt_or_ge t args.length with g | g; exact g; rw [Nat.sub_zero, List.getElem?_eq_none g] at h2; cases h2
    simp only [Nat.sub_zero] at h2
    rw [Array.getElem?_append, if_pos (by simpa using hlt)]
    simpa using h2
omit [Df] in
theorem F_ret {fn : Func} {γ : Type} {val : γ → Value} {fact : γ → Gs → Prop} {bs : List (Nat × Obj)} {G : Gs → Prop} (c : γ) (hr : ∀ a w, Slots (df := noDf) N m a → St ⟨w0, F0, bs, G⟩ w → (results fn a.tmps).run P w = .ok (val c) w) (hg : ∀ F, G F → fact c F) : Fin (df := noDf) (bodyPost P fn (GPost w0 F0 val fact)) .ret N m ⟨w0, F0, bs, G⟩ := fun a w ha hw => by
  obtain ⟨F, h⟩ := id hw
  exact ⟨ha.df, val c, hr a w ha hw, c, F, rfl, h.ext, h.le, h.old, h.fits, fun F' hF' => hg F' (h.g F' hF')⟩
inductive ResV (P : Program) (m : Sl) (bs : List (Nat × Obj)) : List ResultVar → List Value → Prop
  | nil : ResV P m bs [] []
  | tmp {t : Tmp} {v : Value} {r : List ResultVar} {vs : List Value} (h : look m t = some v) (k : ResV P m bs r vs) : ResV P m bs (.tmp t :: r) (v :: vs)
  | cell1 {t : Tmp} {T T' : TypeId} {b n : Nat} {c : List Value} {v : Value} {fr : Nat × Nat} {f : Obj → List (Nat × Obj)} {r : List ResultVar} {vs : List Value} (h : look m t = some (.pointer (some ⟨b, 0, none⟩))) (ht : tyB P T = some (false, n)) (ho : Own bs b (.cells c.toArray T' fr) f) (hg : Get c 0 [v]) (k : ResV P m bs r vs) : ResV P m bs (.cell t T :: r) (v :: vs)
  | cellA {t : Tmp} {T T' : TypeId} {b : Nat} {c : List Value} {fr : Nat × Nat} {f : Obj → List (Nat × Obj)} {r : List ResultVar} {vs : List Value} (h : look m t = some (.pointer (some ⟨b, 0, none⟩))) (ht : tyB P T = some (true, c.length)) (ho : Own bs b (.cells c.toArray T' fr) f) (k : ResV P m bs r vs) : ResV P m bs (.cell t T :: r) (.agg c.toArray :: vs)
def resSem (tmps : Array Value) : ResultVar → Sem Value
  | .tmp t => pure (tmps.getD t undef)
  | .cell p t => do loadVar t (← asAddr (tmps.getD p undef))
theorem ResV.run {rs : List ResultVar} {vs : List Value} (h : ResV P m bs rs vs) {a : Act} {w : World} (ha : Slots N m a) (hw : St ⟨w0, F0, bs, G⟩ w) :
    (rs.mapM (resSem a.tmps)).run P w = .ok vs w := by
  induction h with
  | nil => rfl
  | tmp h k ih =>
    rename_i t v r vs
    have e := ha.get _ _ h
    have e2 : (resSem a.tmps (.tmp t)).run P w = .ok v w := by simp [resSem, e]
    rw [List.mapM_cons, Sem.run_bind, e2]
    simp [ih]
  | cell1 h ht ho hg k ih =>
    rename_i t T T' b n c v fr f r vs
    have e := ha.get _ _ h
    have hc := cell_of_own (hw.own ho) (o := 0)
    have := hg.at 0 _ rfl
    simp only [Nat.zero_add] at this
    rw [this] at hc
    have e2 : (resSem a.tmps (.cell t T)).run P w = .ok v w := by simp [resSem, e, asAddr, run_loadVar1 ht hc]
    rw [List.mapM_cons, Sem.run_bind, e2]
    simp [ih]
  | cellA h ht ho k ih =>
    rename_i t T T' b c fr f r vs
    have e := ha.get _ _ h
    have := run_loadVarA (P := P) ht rfl (w := w) (b := b) (off := 0) (fun j v hv => by rw [Nat.zero_add, cell_of_own (hw.own ho)]; exact hv)
    have e2 : (resSem a.tmps (.cell t T)).run P w = .ok (.agg c.toArray) w := by simp [resSem, e, asAddr, this]
    rw [List.mapM_cons, Sem.run_bind, e2]
    simp [ih]
theorem results_eq (fn : Func) (tmps : Array Value) : results fn tmps = (do let vs ← fn.results.mapM (resSem tmps); pure (if h : vs.size = 1 then vs[0] else .tuple vs)) := by
  unfold results
  exact congrArg (fun (g : ResultVar → Sem Value) => (do let vs ← fn.results.mapM g; pure (if h : vs.size = 1 then vs[0] else .tuple vs) : Sem Value)) (funext fun x => by cases x <;> rfl)
theorem run_results {fn : Func} {rs : List ResultVar} {vs : List Value} (hrs : fn.results = rs.toArray) (h : ResV P m bs rs vs) {a : Act} {w : World} (ha : Slots N m a) (hw : St ⟨w0, F0, bs, G⟩ w) :
    (results fn a.tmps).run P w = .ok (match vs with | [v] => v | vs => .tuple vs.toArray) w := by
  have := h.run ha hw
  rw [results_eq, hrs, List.mapM_toArray]
  simp only [Sem.run_bind, Sem.run_map, this, Result.andThen_ok, Sem.run_pure]
  match vs with
  | [] => rfl
  | [v] => rfl
  | v :: u :: r => rfl
omit [Df] in
theorem F_ret1 {fn : Func} {γ : Type} {val : γ → Value} {fact : γ → Gs → Prop} {bs : List (Nat × Obj)} {G : Gs → Prop} {rs : List ResultVar} {v : Value} (c : γ) (hrs : fn.results = rs.toArray) (h : ResV P m bs rs [v]) (hv : val c = v) (hg : ∀ F, G F → fact c F) : Fin (df := noDf) (bodyPost P fn (GPost w0 F0 val fact)) .ret N m ⟨w0, F0, bs, G⟩ :=
  F_ret c (fun a w ha hw => by rw [hv]; exact run_results hrs h ha hw) hg
omit [Df] in
theorem F_retN {fn : Func} {γ : Type} {val : γ → Value} {fact : γ → Gs → Prop} {bs : List (Nat × Obj)} {G : Gs → Prop} {rs : List ResultVar} {v u : Value} {vs : List Value} (c : γ) (hrs : fn.results = rs.toArray) (h : ResV P m bs rs (v :: u :: vs)) (hv : val c = .tuple (v :: u :: vs).toArray) (hg : ∀ F, G F → fact c F) : Fin (df := noDf) (bodyPost P fn (GPost w0 F0 val fact)) .ret N m ⟨w0, F0, bs, G⟩ :=
  F_ret c (fun a w ha hw => by rw [hv]; exact run_results hrs h ha hw) hg
end
end
end Go.Proofs.YtfdgciidfohhgaaGreatDoor

namespace Go.Proofs.YtfdgciidfohhgaaGreatDoor
open Go.RowKit
section
variable [Dr] [df : Df]
section
variable {P : Program} {N : Nat} {m : Sl} {S : World → Prop} {ty : TypeId} {v : Value}
def binV : BinOp → Value → Value → Option Value
  | .add, .int .i64 a, .int .i64 b => some (.int .i64 (IntKind.i64.wrap (a + b)))
  | .sub, .int .i64 a, .int .i64 b => some (.int .i64 (IntKind.i64.wrap (a - b)))
  | .mul, .int .i64 a, .int .i64 b => some (.int .i64 (IntKind.i64.wrap (a * b)))
  | .add, .int .u64 a, .int .u64 b => some (.int .u64 (IntKind.u64.wrap (a + b)))
  | .sub, .int .u64 a, .int .u64 b => some (.int .u64 (IntKind.u64.wrap (a - b)))
  | .mul, .int .u64 a, .int .u64 b => some (.int .u64 (IntKind.u64.wrap (a * b)))
  | .eql, .int .i64 a, .int .i64 b => some (.bool (a == b))
  | .neq, .int .i64 a, .int .i64 b => some (.bool (a != b))
  | .lss, .int .i64 a, .int .i64 b => some (.bool (decide (a < b)))
  | .leq, .int .i64 a, .int .i64 b => some (.bool (decide (a ≤ b)))
  | .gtr, .int .i64 a, .int .i64 b => some (.bool (decide (a > b)))
  | .geq, .int .i64 a, .int .i64 b => some (.bool (decide (a ≥ b)))
  | .eql, .int .u64 a, .int .u64 b => some (.bool (a == b))
  | .neq, .int .u64 a, .int .u64 b => some (.bool (a != b))
  | .lss, .int .u64 a, .int .u64 b => some (.bool (decide (a < b)))
  | .leq, .int .u64 a, .int .u64 b => some (.bool (decide (a ≤ b)))
  | .gtr, .int .u64 a, .int .u64 b => some (.bool (decide (a > b)))
  | .geq, .int .u64 a, .int .u64 b => some (.bool (decide (a ≥ b)))
  | .eql, .int .u8 a, .int .u8 b => some (.bool (a == b))
  | .neq, .int .u8 a, .int .u8 b => some (.bool (a != b))
  | .lss, .int .u8 a, .int .u8 b => some (.bool (decide (a < b)))
  | .leq, .int .u8 a, .int .u8 b => some (.bool (decide (a ≤ b)))
  | .gtr, .int .u8 a, .int .u8 b => some (.bool (decide (a > b)))
  | .geq, .int .u8 a, .int .u8 b => some (.bool (decide (a ≥ b)))
  | .eql, .int .i32 a, .int .i32 b => some (.bool (a == b))
  | .neq, .int .i32 a, .int .i32 b => some (.bool (a != b))
  | .lss, .int .i32 a, .int .i32 b => some (.bool (decide (a < b)))
  | .leq, .int .i32 a, .int .i32 b => some (.bool (decide (a ≤ b)))
  | .gtr, .int .i32 a, .int .i32 b => some (.bool (decide (a > b)))
  | .geq, .int .i32 a, .int .i32 b => some (.bool (decide (a ≥ b)))
  | .eql, .string a, .string b => some (.bool (a.toList == b.toList))
  | .neq, .string a, .string b => some (.bool (!(a.toList == b.toList)))
  | _, _, _ => none
theorem run_binV {op : BinOp} {T : TypeId} {x y : Operand} {vx vy : Value} (h : binV op vx vy = some v) (w : World) : (do eqGuard op T x y vx vy; binOp op T vx vy : Sem Value).run P w = .ok v w := by
  unfold binV at h
  split at h <;> first
    | (cases h; done)
    | (simp only [Option.some.injEq] at h
       subst h
       simp [eqGuard, binOp, Op.intArith, Op.intCmp, Op.stringOp])
theorem q_bin {op : BinOp} {T yT : TypeId} {x y : Operand} {vx vy : Value} (hx : ev m x = some vx) (hy : ev m y = some vy) (h : binV op vx vy = some v) : Qt P N m S (.binOp op T x y yT) ty v := fun a w _ _ _ _ ha _ => by
  have := run_binV (P := P) (T := T) (x := x) (y := y) h w
  simp only [execOp, ha.ev hx, ha.ev hy]
  simp only [Sem.run_bind] at this ⊢
  rw [this]; rfl
theorem q_add {T yT : TypeId} {x y : Operand} {a b : Int} (hx : ev m x = some (.int .i64 a)) (hy : ev m y = some (.int .i64 b)) (h : -9223372036854775808 ≤ a + b ∧ a + b ≤ 9223372036854775807) : Qt P N m S (.binOp .add T x y yT) ty (.int .i64 (a + b)) := by
  have := q_bin (P := P) (N := N) (m := m) (S := S) (ty := ty) (T := T) (yT := yT) (op := .add) hx hy rfl
  rw [IntWalk.i64_in _ h] at this; exact this
theorem q_sub {T yT : TypeId} {x y : Operand} {a b : Int} (hx : ev m x = some (.int .i64 a)) (hy : ev m y = some (.int .i64 b)) (h : -9223372036854775808 ≤ a - b ∧ a - b ≤ 9223372036854775807) : Qt P N m S (.binOp .sub T x y yT) ty (.int .i64 (a - b)) := by
  have := q_bin (P := P) (N := N) (m := m) (S := S) (ty := ty) (T := T) (yT := yT) (op := .sub) hx hy rfl
  rw [IntWalk.i64_in _ h] at this; exact this
theorem q_mul {T yT : TypeId} {x y : Operand} {a b : Int} (hx : ev m x = some (.int .i64 a)) (hy : ev m y = some (.int .i64 b)) (h : -9223372036854775808 ≤ a * b ∧ a * b ≤ 9223372036854775807) : Qt P N m S (.binOp .mul T x y yT) ty (.int .i64 (a * b)) := by
  have := q_bin (P := P) (N := N) (m := m) (S := S) (ty := ty) (T := T) (yT := yT) (op := .mul) hx hy rfl
  rw [IntWalk.i64_in _ h] at this; exact this
theorem q_rem {T yT : TypeId} {x y : Operand} {k : IntKind} {a b : Int} (hx : ev m x = some (.int k a)) (hy : ev m y = some (.int k b)) (h : b ≠ 0) : Qt P N m S (.binOp .rem T x y yT) ty (.int k (a.tmod b)) := fun s w _ _ _ _ ha _ => by
  simp [execOp, ha.ev hx, ha.ev hy, eqGuard, binOp, Op.intDiv, h]
theorem q_remN {T yT : TypeId} {x y : Operand} {k : IntKind} {a b : Int} (hx : ev m x = some (.int k a)) (hy : ev m y = some (.int k b)) (ha : 0 ≤ a) (hb : 0 < b) : Qt P N m S (.binOp .rem T x y yT) ty (.int k (a % b)) := by
  have := q_rem (P := P) (N := N) (m := m) (S := S) (ty := ty) (T := T) (yT := yT) hx hy (by omega)
  rw [Int.tmod_eq_emod_of_nonneg ha] at this; exact this
theorem q_not {T : TypeId} {x : Operand} {b : Bool} (hx : ev m x = some (.bool b)) : Qt P N m S (.unOp .not T x) ty (.bool (!b)) := fun s w _ _ _ _ ha _ => by
  simp [execOp, ha.ev hx, Op.unary]
def kindB (P : Program) (T : TypeId) : Option IntKind := match P.underlying T with
  | some (.int k) => some k
  | _ => none
theorem q_convInt {src dst : TypeId} {x : Operand} {k k' : IntKind} {n : Int} (hx : ev m x = some (.int k' n)) (hs : (P.underlying src).isSome = true) (hk : kindB P dst = some k) : Qt P N m S (.convert src dst x) ty (.int k (k.wrap n)) := fun s w _ _ _ _ ha _ => by
  obtain ⟨d, hd⟩ := Option.isSome_iff_exists.1 hs
  unfold kindB at hk
  split at hk
  · rename_i k'' hu
    cases hk
    simp only [execOp, ha.ev hx, convert, Sem.run_bind, run_underlying hd, run_underlying hu, Result.andThen_ok]
    rfl
  · cases hk
theorem i64_wrap {n : Int} (h : -9223372036854775808 ≤ n ∧ n ≤ 9223372036854775807) : IntKind.i64.wrap n = n := IntWalk.i64_in _ h
theorem q_convI64 {src dst : TypeId} {x : Operand} {k' : IntKind} {n : Int} (hx : ev m x = some (.int k' n)) (hs : (P.underlying src).isSome = true) (hk : kindB P dst = some .i64) (h : -9223372036854775808 ≤ n ∧ n ≤ 9223372036854775807) : Qt P N m S (.convert src dst x) ty (.int .i64 n) := by
  have := q_convInt (P := P) (N := N) (m := m) (S := S) (ty := ty) hx hs hk
  rw [i64_wrap h] at this; exact this
theorem run_builtin {b : Builtin} {args : Array Operand} {tys : Array TypeId} {a : Act} {d : Option Tmp} {pos : String} {aft : Array Edge} {g : Option (Nat × Bool)} : execOp a.eval ⟨d, .call ⟨.builtin b, args, tys⟩, ty, pos, aft, g⟩ = builtin b tys ty (args.map fun | .const _ => true | _ => false) (args.map a.eval) := rfl
def slB (P : Program) (T : TypeId) : Option TypeId := match P.underlying T with
  | some (.slice e) => some e
  | _ => none
theorem slB_u {T e : TypeId} (h : slB P T = some e) : P.underlying T = some (.slice e) := by
  unfold slB at h; split at h
  · cases h; assumption
  · cases h
theorem q_lenSl {T e : TypeId} {x : Operand} {q : Option Addr} {n c : Nat} (hx : ev m x = some (.slice q n c)) (hT : slB P T = some e) : Qt P N m S (.call ⟨.builtin .len, #[x], #[T]⟩) ty (.int .i64 n) := fun a w _ _ _ _ ha _ => by
  rw [run_builtin]
  simp [builtin, Builtin.len_, ha.ev hx, run_underlying (slB_u hT), goInt]
theorem q_min {T T' : TypeId} {x y : Operand} {a b : Int} (hx : ev m x = some (.int .i64 a)) (hy : ev m y = some (.int .i64 b)) : Qt P N m S (.call ⟨.builtin .min, #[x, y], #[T, T']⟩) ty (.int .i64 (if b < a then b else a)) := fun s w _ _ _ _ ha _ => by
  rw [run_builtin]
  simp [builtin, ha.ev hx, ha.ev hy, Builtin.min_, Builtin.min2]
theorem q_max {T T' : TypeId} {x y : Operand} {a b : Int} (hx : ev m x = some (.int .i64 a)) (hy : ev m y = some (.int .i64 b)) : Qt P N m S (.call ⟨.builtin .max, #[x, y], #[T, T']⟩) ty (.int .i64 (if b > a then b else a)) := fun s w _ _ _ _ ha _ => by
  rw [run_builtin]
  simp [builtin, ha.ev hx, ha.ev hy, Builtin.max_, Builtin.max2]
end
end
end Go.Proofs.YtfdgciidfohhgaaGreatDoor

namespace Go.Proofs.YtfdgciidfohhgaaGreatDoor
open Go.RowKit
section
variable [Dr] [df : Df]
section
variable {P : Program} {Q : Exit → Act → World → Prop} {N : Nat} {m : Sl} {E E0 : Env} {ops : Array Oper} {l : List Oper} {w0 : World} {F0 : Gs} {bs : List (Nat × Obj)} {G : Gs → Prop} {ty : TypeId} {v : Value} {S : World → Prop}
theorem add_at (b off k : Nat) : (⟨b, off, none⟩ : Addr).add k = ⟨b, off + k, none⟩ := by unfold Addr.add; split <;> simp_all
theorem q_idxAddr {T e : TypeId} {x y : Operand} {b off n c sz i : Nat} {g : Bool} (hx : ev m x = some (.slice (some ⟨b, off, none⟩) n c)) (hy : ev m y = some (.int .i64 (i : Int))) (hT : slB P T = some e) (hs : tyB P e = some (g, sz)) (hi : i < n) : Qt P N m S (.indexAddr T x y) ty (.pointer (some ⟨b, off + i * sz, none⟩)) := fun a w _ _ _ _ ha _ => by
  simp [execOp, ha.ev hx, ha.ev hy, Instr.indexAt, asIntOf, run_underlying (slB_u hT), tyB_size hs, hi, add_at]
theorem Put.mk' : ∀ (n : Nat) (l vs : List Value), n + vs.length ≤ l.length → Put l n vs (l.take n ++ vs ++ l.drop (n + vs.length))
  | 0, l, [], _ => by simpa using Put.nil (l := l)
  | 0, x :: l, v :: vs, h => by
    have := Put.mk' 0 l vs (by simp at h ⊢; omega)
    simp only [List.take_zero, List.nil_append, Nat.zero_add, List.length_cons, List.drop_succ_cons, List.cons_append] at this ⊢
    exact .here this
  | n + 1, x :: l, vs, h => by
    have := Put.mk' n l vs (by simp at h; omega)
    rw [Nat.add_right_comm]
    simpa using Put.skip (x := x) this
  | 0, [], v :: vs, h => by simp at h
  | n + 1, [], vs, h => by simp at h
inductive OwnRow (T : TypeId) (sz : Nat) : Value → Nat → List Value → List (Nat × Obj) → Prop
  | nil : OwnRow T sz (.slice none 0 0) 0 [] []
  | some {b n cap : Nat} {l rest : List Value} (h1 : l.length = n * sz) (h2 : l.length + rest.length = cap * sz) (h3 : n ≤ cap) (h4 : cap ≤ maxLen) : OwnRow T sz (.slice (some ⟨b, 0, none⟩) n cap) n l [(b, .cells (l ++ rest).toArray T (0, 0))]
structure Src (E : Env) (sz : Nat) (x : Value) (k : Nat) (news : List Value) : Prop where
  len : news.length = k * sz
  rd : ((∃ c, x = .slice none 0 c) ∧ k = 0 ∧ news = []) ∨ ∃ a c, x = .slice (some a) k c ∧ ∀ w, St E w → ∀ j v, news[j]? = some v → w.cell? (a.add j) = some v
theorem Src.row {sz k b off c : Nat} {news : List Value} {cs : Array Value} {T : TypeId} (hr : ∀ F, G F → F b = some (cs, T)) (hg : ∀ j v, news[j]? = some v → cs[off + j]? = some v) (hl : news.length = k * sz) : Src ⟨w0, F0, bs, G⟩ sz (.slice (.some ⟨b, off, none⟩) k c) k news :=
  ⟨hl, .inr ⟨_, _, rfl, fun w hw j v hv => by rw [add_at]; exact cell_of_row hw hr (hg j v hv)⟩⟩
def bytesB (P : Program) (T : TypeId) : Option Nat := (P.info? T).map (·.bytes)
theorem run_firstCells_read {w : World} {sz k : Nat} {x : Value} {news : List Value} (hl : news.length = k * sz) (h : ((∃ c, x = .slice none 0 c) ∧ k = 0 ∧ news = []) ∨ ∃ a c, x = .slice (some a) k c ∧ ∀ j v, news[j]? = some v → w.cell? (a.add j) = some v) :
    (Builtin.firstCells sz k x).run P w = .ok news.toArray w := by
  rcases h with ⟨⟨_, rfl⟩, rfl, rfl⟩ | ⟨a, c, rfl, h⟩
  · rfl
  · exact run_firstCells_some (P := P) w sz k a k c news hl h
theorem run_appendOwn {t e : TypeId} {sz bytes n k : Nat} {z : List Value} {g : Bool} {x y : Value} {olds news : List Value} {ob : List (Nat × Obj)} {w : World} (ht : slB P t = some e) (hs : tyB P e = some (g, sz)) (hz : zeroB P e = some z) (hzl : z.length = sz) (hby : bytesB P e = some bytes)
    (hr : OwnRow e sz x n olds ob) (hs2 : Src ⟨w0, F0, ob ++ bs, G⟩ sz y k news) (hw : St ⟨w0, F0, ob ++ bs, G⟩ w) (h63 : n + k ≤ 9223372036854775807) (h47 : (n + k) * bytes ≤ 140737488355328) (h1 : ∀ v ∈ news, v.oneCell' = true) (hu : notU e = true) :
    ∃ v' ob' w', (Builtin.append_ #[t, t] ty #[x, y]).run P w = .ok v' w' ∧ OwnRow e sz v' (n + k) (olds ++ news) ob' ∧ St ⟨w0, F0, ob' ++ bs, G⟩ w' := by
  have hi : ∃ i, P.info? e = some i ∧ i.size = sz ∧ i.bytes = bytes ∧ ∃ zv, i.zero = some zv ∧ zv.cells = z.toArray := by
    unfold bytesB at hby; unfold zeroB at hz; unfold tyB at hs
    cases hie : P.info? e with
    | none => rw [hie] at hby; cases hby
    | some i =>
      rw [hie] at hby hz hs
      dsimp only at hz hs
      simp only [Option.map_some, Option.some.injEq] at hby
      refine ⟨i, rfl, ?_, hby, ?_⟩
      · split at hs
        · rename_i h1 h2; cases h2; cases hs; rfl
        · cases hs
      · cases hzz : i.zero with
        | none => rw [hzz] at hz; cases hz
        | some zv => rw [hzz] at hz; simp only [Option.map_some, Option.some.injEq] at hz; exact ⟨zv, rfl, by rw [← hz]⟩
  obtain ⟨i, hi1, hi2, hi3, zv, hi4, hi5⟩ := hi
  subst hi2 hi3
  have hzc : ∀ q, (Builtin.zeroCells zv.cells q).toList.length = q * i.size := fun q => by simp [Builtin.zeroCells, hi5, hzl]
  have hu' : ∀ c fr c' fr', Obj.cells c e fr ≠ .cells c' 231 fr' := fun c fr => notU_cells hu
  have new : ∀ {w' : World} (l rest : List Value) (v' : Value) (cap : Nat) (bs' : List (Nat × Obj)), St ⟨w0, F0, bs', G⟩ w' → bs.Sublist bs' → v' = .slice (some ⟨w'.heap.size, 0, none⟩) (n + k) cap → l.length = (n + k) * i.size → l.length + rest.length = cap * i.size → n + k ≤ cap → cap ≤ maxLen →
      ∃ ob', OwnRow e i.size v' (n + k) l ob' ∧ St ⟨w0, F0, ob' ++ bs, G⟩ (w'.alloc (.cells (l ++ rest).toArray e)) := by
    intro w' l rest v' cap bs' hw' hsub hv' h2 h3 h4 h5
    subst hv'
    exact ⟨_, .some h2 h3 h4 h5, (hw'.imp hsub fun _ h => h).alloc _ (hu' _ _)⟩
  have hcut : ∀ need old, need ≤ 9223372036854775807 → need ≤ grownCap w need old e := fun need old _ => grownCap_ge w need old e
  cases hr with
  | nil =>
    simp only [Nat.zero_add, List.nil_append] at *
    rcases hs2.rd with ⟨⟨_, rfl⟩, rfl, rfl⟩ | ⟨a, c, rfl, hrd⟩
    · refine ⟨.slice none 0 0, [], w, ?_, .nil, hw⟩
      simp [Builtin.append_, run_underlying (slB_u ht), sizeOf, typeInfo, hi1, Builtin.lenOf, Builtin.firstCells]
    · by_cases hk : k = 0
      · subst hk
        have hn0 : news = [] := by have := hs2.len; simp at this; exact this
        subst hn0
        refine ⟨.slice none 0 0, [], w, ?_, .nil, hw⟩
        have := run_firstCells_some (P := P) w i.size 0 a 0 c [] (by simp) (fun j v hv => by simp at hv)
        simp [Builtin.append_, run_underlying (slB_u ht), sizeOf, typeInfo, hi1, Builtin.lenOf, this]
      · have hrun := run_append_nil (P := P) (w := w) t ty e i zv (slB_u ht) hi1 hi4 a k c news hs2.len (hrd w hw) (by omega) (by omega) (by omega)
        have hge := hcut k 0 h63
        obtain ⟨ob', h2, h3⟩ := new news (Builtin.zeroCells zv.cells (grownCap w k 0 e - k)).toList _ (grownCap w k 0 e) bs hw.drew (List.Sublist.refl _) rfl hs2.len (by rw [hzc, hs2.len, ← Nat.add_mul]; congr 1; omega) hge (grownCap_le_maxLen w k 0 e (by simp only [maxLen]; omega))
        refine ⟨_, ob', _, hrun, h2, ?_⟩
        have e1 : (news ++ (Builtin.zeroCells zv.cells (grownCap w k 0 e - k)).toList).toArray = news.toArray ++ Builtin.zeroCells zv.cells (grownCap w k 0 e - k) := by apply Array.ext'; simp
        rw [e1] at h3; exact h3
  | some g1 g2 g3 g4 =>
    rename_i b cap rest
    have hbw : w.heap[b]? = some (.cells (olds ++ rest).toArray e (0, 0)) := hw.own (f := fun o' => (b, o') :: bs) .here
    have hold : ∀ j v, olds[j]? = some v → w.cell? ((⟨b, 0, none⟩ : Addr).add j) = some v := fun j v hv => by
      rw [add_at, Nat.zero_add, cell_of_own hbw, List.getElem?_append]
      have : j < olds.length := by rcases Nat.lt_or_ge j olds.length with q | q; exact q; rw [List.getElem?_eq_none q] at hv; cases hv
      rw [if_pos this]; exact hv
    by_cases hroom : n + k ≤ cap
    ·
      have hmul : (n + k) * i.size ≤ cap * i.size := Nat.mul_le_mul_right _ hroom
      rw [Nat.add_mul] at hmul
      have hp := Put.mk' (n * i.size) (olds ++ rest) news (by rw [List.length_append, hs2.len]; omega)
      obtain ⟨w', h2, h3⟩ := run_storeCells_at (P := P) b e news 0 (n * i.size) (olds ++ rest) _ w hbw h1 hp
      have e1 : (olds ++ rest).take (n * i.size) = olds := by rw [← g1]; simp
      have e2 : (olds ++ rest).drop (n * i.size + news.length) = rest.drop news.length := by
        rw [← g1, List.drop_append, List.drop_of_length_le (by omega), Nat.add_sub_cancel_left, List.nil_append]
      rw [e1, e2] at h3
      have hfc := run_firstCells_read (P := P) (w := w) hs2.len (hs2.rd.imp id fun ⟨a, c, h, h'⟩ => ⟨a, c, h, h' w hw⟩)
      refine ⟨.slice (some ⟨b, 0, none⟩) (n + k) cap, [(b, .cells (olds ++ news ++ rest.drop news.length).toArray e (0, 0))], w', ?_, .some ?_ ?_ hroom g4, ?_⟩
      · have hlen : (Builtin.lenOf y).run P w = .ok k w := by
          rcases hs2.rd with ⟨⟨_, rfl⟩, rfl, _⟩ | ⟨a, c, rfl, _⟩ <;> rfl
        simp [Builtin.append_, run_underlying (slB_u ht), sizeOf, typeInfo, hi1, hlen, hroom, hfc, add_at, h2]
      · rw [List.length_append, g1, hs2.len, Nat.add_mul]
      · rw [List.length_append, List.length_drop, hs2.len, g1]; omega
      · exact St.write [] hw h3 (hu' _ _)
    · rcases hs2.rd with ⟨⟨_, rfl⟩, rfl, rfl⟩ | ⟨a, c, rfl, hrd⟩
      · exact absurd g3 hroom
      · have hfit := growslice_fits (need := n + k) (old := cap) (bytes := i.bytes) (by omega) h47
        have hrun := run_append_grow (P := P) (w := w) t ty e i zv (slB_u ht) hi1 hi4 ⟨b, 0, none⟩ n cap olds g1 hold a k c news hs2.len (hrd w hw) (by omega) (by omega) hfit
        have hge := hcut (n + k) cap h63
        have hl2 : (olds ++ news).length = (n + k) * i.size := by rw [List.length_append, g1, hs2.len, Nat.add_mul]
        obtain ⟨ob', h2, h3⟩ := new (olds ++ news) (Builtin.zeroCells zv.cells (grownCap w (n + k) cap e - (n + k))).toList _ (grownCap w (n + k) cap e) _ hw.drew (List.sublist_cons_self _ _) rfl hl2 (by rw [hzc, hl2, ← Nat.add_mul]; congr 1; omega) hge (grownCap_le_maxLen w (n + k) cap e (by simp only [maxLen]; omega))
        refine ⟨_, ob', _, hrun, h2, ?_⟩
        have e1 : (olds ++ news ++ (Builtin.zeroCells zv.cells (grownCap w (n + k) cap e - (n + k))).toList).toArray = olds.toArray ++ news.toArray ++ Builtin.zeroCells zv.cells (grownCap w (n + k) cap e - (n + k)) := by apply Array.ext'; simp
        rw [e1] at h3; exact h3
theorem JS_append {d : Nat} {pos : String} {aft : Array Edge} {t e : TypeId} {sz bytes n k : Nat} {z : List Value} {g : Bool} {X Y : Operand} {x y : Value} {olds news : List Value} {ob : List (Nat × Obj)} (hx : ev m X = some x) (hy : ev m Y = some y) (ht : slB P t = some e) (hs : tyB P e = some (g, sz)) (hz : zeroB P e = some z) (hzl : z.length = sz) (hby : bytesB P e = some bytes)
    (hr : OwnRow e sz x n olds ob) (hs2 : Src ⟨w0, F0, ob ++ bs, G⟩ sz y k news) (h63 : n + k ≤ 9223372036854775807) (h47 : (n + k) * bytes ≤ 140737488355328) (h1 : ∀ v ∈ news, v.oneCell' = true)
    (kk : ∀ v' ob', OwnRow e sz v' (n + k) (olds ++ news) ob' → JS P ops Q l N ((d, v') :: m) ⟨w0, F0, ob' ++ bs, G⟩) (hu : notU e = true := by rfl) (hd : dstOk N (some d) = true := by rfl) :
    JS P ops Q (⟨some d, .call ⟨.builtin .append, #[X, Y], #[t, t]⟩, ty, pos, aft, none⟩ :: l) N m ⟨w0, F0, ob ++ bs, G⟩ := fun a w ha hw =>
  wpList_plain rfl fun K hK => by
    obtain ⟨v', ob', w', h2, h3, h4⟩ := run_appendOwn (ty := ty) ht hs hz hzl hby hr hs2 hw h63 h47 h1 hu
    refine upon_value (w' := w') (v := v') ?_ (hK _ _ (kk v' ob' h3 _ w' (ha.put hd v') h4))
    rw [run_builtin]
    simp [builtin, ha.ev hx, ha.ev hy, h2]
end
end
end Go.Proofs.YtfdgciidfohhgaaGreatDoor

namespace Go.Proofs.YtfdgciidfohhgaaGreatDoor
open Go.RowKit
section
variable [Dr] [df : Df]
section
variable {P : Program} {Q : Exit → Act → World → Prop} {N : Nat} {m : Sl} {E E0 : Env} {ops : Array Oper} {l : List Oper}
theorem JD_done (h : Fin Q .normal N m E) : JD P ops (onlyN (Q .normal)) E0 [] N m E := fun _ => h
theorem JS_split {t : Nat} {b : Bool} (h : look m t = some (.bool b)) (ht : b = true → JS P ops Q l N ((t, .bool true) :: m) E) (hf : b = false → JS P ops Q l N ((t, .bool false) :: m) E) : JS P ops Q l N m E := fun a w ha hw => by
  cases b with
  | true => exact ht rfl a w ⟨ha.size, ha.df, fun i v hi => by
      simp only [look] at hi
      cases hb : Nat.beq t i with
      | true => rw [hb] at hi; have : t = i := (by simpa using hb); subst this; exact ha.get _ _ (by rw [h]; simpa using hi)
      | false => rw [hb] at hi; exact ha.get _ _ hi⟩ hw
  | false => exact hf rfl a w ⟨ha.size, ha.df, fun i v hi => by
      simp only [look] at hi
      cases hb : Nat.beq t i with
      | true => rw [hb] at hi; have : t = i := (by simpa using hb); subst this; exact ha.get _ _ (by rw [h]; simpa using hi)
      | false => rw [hb] at hi; exact ha.get _ _ hi⟩ hw
section
variable {d : Option Tmp} {o : Op} {ty : TypeId} {pos : String} {aft : Array Edge} {g t : Nat} {want : Bool}
theorem JS_g1 (hg : (ops[g]?).bind (·.dst) = some t) (hb : look m t = some (.bool want)) (ht : JS P ops Q (⟨d, o, ty, pos, aft, none⟩ :: l) N m E) (hd : dstOk N d = true := by rfl) : JS P ops Q (⟨d, o, ty, pos, aft, some (g, want)⟩ :: l) N m E :=
  JS_g hg hb (fun _ => ht) (fun h => by cases want <;> cases h) hd
theorem JD_g1 (hg : (ops[g]?).bind (·.dst) = some t) (hb : look m t = some (.bool want)) (ht : JD P ops Q E0 (⟨d, o, ty, pos, aft, none⟩ :: l) N m E) (hd : dstOk N d = true := by rfl) : JD P ops Q E0 (⟨d, o, ty, pos, aft, some (g, want)⟩ :: l) N m E :=
  JD_g hg hb (fun _ => ht) (fun h => by cases want <;> cases h) hd
theorem JS_g0 {d : Nat} {b : Bool} (hg : (ops[g]?).bind (·.dst) = some t) (hb : look m t = some (.bool b)) (hw : b = !want) (hf : JS P ops Q l N ((d, undef) :: m) E) (hd : dstOk N (some d) = true := by rfl) : JS P ops Q (⟨some d, o, ty, pos, aft, some (g, want)⟩ :: l) N m E :=
  JS_g hg hb (fun h => by subst h; cases b <;> cases hw) (fun _ => hf) hd
end
end
section
variable {P : Program} {Q : Exit → Act → World → Prop} {N : Nat} {m l : Sl} {w0 : World} {F0 : Gs} {bs bs1 : List (Nat × Obj)} {G G1 : Gs → Prop} {x y : Code}
end
section
variable {P : Program} {N : Nat} {m : Sl} {S : World → Prop} {ty : TypeId} {v : Value}
theorem q_pickT {c x y : Operand} (hc : ev m c = some (.bool true)) (hx : ev m x = some v) (hy : (ev m y).isSome = true) : Qt P N m S (.pick c x y) ty v := by
  obtain ⟨u, hu⟩ := Option.isSome_iff_exists.1 hy
  exact q_pick hc hx hu
theorem q_pickF {c x y : Operand} (hc : ev m c = some (.bool false)) (hx : (ev m x).isSome = true) (hy : ev m y = some v) : Qt P N m S (.pick c x y) ty v := by
  obtain ⟨u, hu⟩ := Option.isSome_iff_exists.1 hx
  exact q_pick hc hu hy
end
end
end Go.Proofs.YtfdgciidfohhgaaGreatDoor

namespace Go.Proofs.YtfdgciidfohhgaaGreatDoor
theorem ty_3 : tyB Tryz.prog 3 = some (false, 1) := by kernel_rfl
theorem z_3 : zeroB Tryz.prog 3 = some [.int .i64 0] := by kernel_rfl
theorem by_3 : bytesB Tryz.prog 3 = some 8 := by kernel_rfl
theorem k_3 : kindB Tryz.prog 3 = some .i64 := by kernel_rfl
theorem ty_24 : tyB Tryz.prog 24 = some (false, 1) := by kernel_rfl
theorem z_24 : zeroB Tryz.prog 24 = some [.int .i64 0] := by kernel_rfl
theorem sl_22 : slB Tryz.prog 22 = some 3 := by kernel_rfl
theorem sl_118 : slB Tryz.prog 118 = some 24 := by kernel_rfl
theorem mixed : Tryz.prog.follows .mixedOrders = true := by kernel_rfl
end Go.Proofs.YtfdgciidfohhgaaGreatDoor

namespace Ig
def dv (b : Int) : List Int → Int
  | [] => 0
  | x :: l => x + b * dv b l
@[simp] theorem dv_nil (b : Int) : dv b [] = 0 := rfl
@[simp] theorem dv_cons (b x : Int) (l : List Int) : dv b (x :: l) = x + b * dv b l := rfl
end Ig

namespace Go.Proofs.YtfdgciidfohhgaaGreatDoor
open Go.RowKit Ig
def W : Int := 18446744073709551616
end Go.Proofs.YtfdgciidfohhgaaGreatDoor

namespace Go.Proofs.YtfdgciidfohhgaaGreatDoor
open Go.RowKit Ig
def sz (z : Int) : Nat := if z = 0 then 0 else z.natAbs.log2 + 1
end Go.Proofs.YtfdgciidfohhgaaGreatDoor

namespace Ig
section
variable {b : Int} (hb : 1 < b)
include hb
omit hb
include hb
end
end Ig

namespace Go.Proofs.YtfdgciidfohhgaaGreatDoor
open Go.RowKit Ig
def p2 (s : Nat) : Int := 2 ^ s
end Go.Proofs.YtfdgciidfohhgaaGreatDoor

namespace Go.Proofs.YtfdgciidfohhgaaGreatDoor
open Go.RowKit Ig
def FitsR (F : Gs) (w : World) : Prop := ∀ b c T, F b = some (c, T) → ∃ fr, w.heap[b]? = some (.cells c T fr)
def SameU (w w' : World) : Prop := ∀ (b : Nat) (c : Array Value) (fr : Nat × Nat), w.heap[b]? = some (.cells c 231 fr) → ∃ fr', w'.heap[b]? = some (.cells c 231 fr')
theorem CallsG.lift {P : Program} {f : FuncId} {args : List Value} {w : World} {F : Gs} {γ : Type} {val : γ → Value} {R : γ → World → Prop} (pr : γ → Prop) (he : Enters P f) (hF : Fits F w)
    (h : Calls P f args.toArray w fun e w' => ∃ c, e = .returned (val c) ∧ R c w' ∧ pr c ∧ Ext w w') (hR : ∀ c w' w'', SameU w' w'' → R c w' → R c w'') : CallsG P f args w F val (fun c F => (∀ w, FitsR F w → R c w) ∧ pr c) := by
  refine ⟨he, h.mono ?_⟩
  rintro e w' ⟨c, rfl, hr, hpr, hx⟩
  refine ⟨c, fun b => if b < w.heap.size then F b else match w'.heap[b]? with | some (.cells c T _) => if T = 231 then some (c, 231) else none | _ => none, rfl, .of hx, ?_, ?_, ⟨?_, ?_⟩, ?_⟩
  · intro b x hb
    show (if b < w.heap.size then _ else _) = _
    rw [if_pos (hF.lt hb)]; exact hb
  · intro b hb
    show (if b < w.heap.size then _ else _) = _
    rw [if_pos hb]
  · intro b c T hb
    by_cases hlt : b < w.heap.size
    · rw [if_pos hlt] at hb
      obtain ⟨fr, e⟩ := hF.row b c T hb
      exact ⟨fr, by rw [hx.block b hlt]; exact e⟩
    · rw [if_neg hlt] at hb
      split at hb
      · rename_i c' T' fr heq
        split at hb
        · rename_i hT; cases hb; exact ⟨fr, by rw [heq, hT]⟩
        · cases hb
      · cases hb
  · intro b c fr hb
    show (if b < w.heap.size then _ else _) = _
    by_cases hlt : b < w.heap.size
    · rw [if_pos hlt]
      rw [hx.block b hlt] at hb
      exact hF.all b c fr hb
    · rw [if_neg hlt, hb]; simp
  · intro F'' hle
    refine ⟨fun w'' hw'' => ?_, hpr⟩
    refine hR c w' w'' (fun b c fr hb => ?_) hr
    refine hw'' b c _ (hle b _ ?_)
    show (if b < w.heap.size then _ else _) = _
    by_cases hlt : b < w.heap.size
    · rw [if_pos hlt]; rw [hx.block b hlt] at hb; exact hF.all b c fr hb
    · rw [if_neg hlt, hb]; simp
structure Bg where
  s : Int
  q : Option Addr
  n : Nat
  cap : Nat
abbrev GivesVal [Dr] (P : Program) (f : FuncId) (args : List Value) (w : World) (F : Gs) (v : Value) : Prop := CallsG P f args w F (fun (_ : Unit) => v) (fun _ _ => True)
theorem GivesVal.of {P : Program} {f : FuncId} {args : List Value} {w : World} {F : Gs} {v : Value} (he : Enters P f) (hF : Fits F w) (h : Calls P f args.toArray w fun e w' => e = .returned v ∧ Ext w w') : GivesVal P f args w F v := by
  have := CallsG.lift (γ := Unit) (val := fun _ => v) (R := fun _ _ => True) (fun _ => True) he hF (h.mono fun e w' ⟨h1, h2⟩ => ⟨(), h1, trivial, trivial, h2⟩) (fun _ _ _ _ h => h)
  exact this.imp fun c F' _ => ⟨(), rfl, fun _ _ => trivial⟩
section
variable {w : World} {F : Gs} {g g' : Bg} {a b : Int}
end
structure Sr where
  q : Option Addr
  n : Nat
  cap : Nat
@[reducible] def Sr.v (r : Sr) : Value := .slice r.q r.n r.cap
section
variable {w : World} {F : Gs} {g g' : Bg} {a b : Int}
end
end Go.Proofs.YtfdgciidfohhgaaGreatDoor

namespace Go.Proofs.YtfdgciidfohhgaaGreatDoor
open Go.RowKit Ig
section
variable {P : Program} {N : Nat} {m : Sl} {Y : World → Prop} {ty : TypeId}
end
def Glob (F : Gs) : Prop := (∃ m T, F 0 = some (#[.int .i64 m], T)) ∧ ∃ T, F 3 = some ((Lib.pow10Tab.map fun z => Value.int .u64 z).toArray, T)
theorem Glob.le {F F' : Gs} (h : Glob F) (k : Gs.le F F') : Glob F' := by
  obtain ⟨⟨m, T, h1⟩, T', h2⟩ := h
  exact ⟨⟨m, T, k _ _ h1⟩, T', k _ _ h2⟩
section
variable {w : World} {F : Gs}
end
end Go.Proofs.YtfdgciidfohhgaaGreatDoor

namespace Go.Proofs.YtfdgciidfohhgaaGreatDoor
open Go.RowKit Go.ChangeShapes Go.WideShapes Ig
def fullG (w : World) : Gs := fun b => match w.heap[b]? with
  | some (.cells c T _) => some (c, T)
  | _ => none
theorem fullG_fits (w : World) : Fits (fullG w) w := by
  refine ⟨fun b c T h => ?_, fun b c fr h => ?_⟩
  · unfold fullG at h
    split at h
    · rename_i c' T' fr e
      simp only [Option.some.injEq, Prod.mk.injEq] at h
      obtain ⟨rfl, rfl⟩ := h
      exact ⟨fr, e⟩
    · cases h
  · unfold fullG; rw [h]
def lrows : List (String × DataW Unit) := Rows.runPlaysRow.laid
theorem own_seat : ownKnob Tryz.prog.godebug = none := by kernel_rfl
theorem gPow : Tryz.prog.globalNamed "internal/strconv.uint64pow10" = some 3 := by kernel_rfl
theorem trods_stay (hl : laidOutB Tryz.prog = true) {H : Type} {enc : TypeId × Value → H} {W W' : World} (hb : Below W.heap.size W W') : ∀ {ts : List TypeId} {vs : List Value} {ds : List (DataW H)} {ps : List MemPlace},
    (∀ t ∈ ts, Tryz.prog.readableRec t = true ∧ t < Tryz.prog.types.size) → DataW.TrodAll enc Tryz.prog W 0 (fun _ => true) true ts vs ds ps → (∀ x ∈ ps, x.block < W.heap.size) →
    DataW.TrodAll enc Tryz.prog W' 0 (fun b => decide (b < W.heap.size)) true ts vs ds ps
  | [], _, _, _, _, h, _ => by
    obtain ⟨rfl, rfl, rfl⟩ := trodAll_nil h
    exact (rfl : ([] : List MemPlace) = [])
  | t :: ts, _, _, _, ht, h, hlt => by
    obtain ⟨v, vs1, d, ds1, a, b, rfl, rfl, rfl, h1, h2⟩ := trodAll_cons h
    exact trodAll_cons_mk (Below.trod hl (ht t (List.mem_cons_self ..)).1 (ht t (List.mem_cons_self ..)).2 h1 hb (fun x hx => hlt x (List.mem_append_left _ hx)))
      (trods_stay hl hb (fun t' h' => ht t' (List.mem_cons_of_mem _ h')) h2 (fun x hx => hlt x (List.mem_append_right _ hx)))
theorem tPow : (Tryz.prog.globals[3]?).map (·.type) = some 331 := by kernel_rfl
theorem uPow : Tryz.prog.underlying 331 = some (.array 20 231) := by kernel_rfl
theorem cPow : Tryz.prog.cellsOf 231 = 1 := by kernel_rfl
theorem ccPow : Tryz.prog.cellsOf 331 = 20 := by kernel_rfl
theorem u64T : Tryz.prog.underlying 231 = some (.int .u64) := by kernel_rfl
theorem list_ext20 {α : Type} {a b : List α} (h1 : a.length = 20) (h2 : b.length = 20) (h : ∀ i, i < 20 → a[i]? = b[i]?) : a = b := by
  apply List.ext_getElem?
  intro i
  rcases Nat.lt_or_ge i 20 with k | k
  · exact h i k
  · rw [List.getElem?_eq_none (by omega), List.getElem?_eq_none (by omega)]
theorem pow_datum : Rows.laid_internal_strconv_uint64pow10 (H := Unit) = .agg (Lib.pow10Tab.map fun z => .lit (.int .u64 z)) := by
  unfold Rows.laid_internal_strconv_uint64pow10 Lib.pow10Tab
  congr 1
theorem pow_row {H : Type} {enc : TypeId × Value → H} {w : World} {fuel : Nat} {cs : List Value} {p : List MemPlace} (h : DataW.trod enc Tryz.prog w 0 (fun _ => true) false fuel 331 cs = some (.agg (Lib.pow10Tab.map fun z => .lit (.int .u64 z)), p)) : cs = Lib.pow10Tab.map fun z => Value.int .u64 z := by
  obtain ⟨xs, m, rfl, hx, hl, hn, hel⟩ := DataW.trod_array uPow h
  rw [ccPow] at hl
  simp only [Prod.mk.injEq, DataW.agg.injEq] at hx
  refine list_ext20 hl (by simp [Lib.pow10Tab]) fun i hi => ?_
  have e := hel i hi
  rw [cPow, Nat.mul_one] at e
  have hix : i < xs.length := by omega
  rw [List.getElem?_eq_getElem hix] at e
  obtain ⟨z, e1, e2, _⟩ := DataW.trod_int u64T e
  have hil : i < cs.length := by omega
  rw [List.drop_eq_getElem_cons hil] at e1
  simp only [List.take_succ_cons, List.take_zero, List.cons.injEq, and_true] at e1
  rw [List.getElem?_eq_getElem hil, e1]
  have h3 : (xs.map (·.1))[i]? = some (.lit (.int .u64 z)) := by rw [List.getElem?_map, List.getElem?_eq_getElem hix, e2]; rfl
  rw [← hx.1, List.getElem?_map] at h3
  rw [List.getElem?_map]
  cases hp : Lib.pow10Tab[i]? with
  | none => rw [hp] at h3; cases h3
  | some y =>
    rw [hp] at h3
    simp only [Option.map_some, Option.some.injEq, DataW.lit.injEq, Lit.int.injEq, true_and] at h3
    rw [h3]; rfl
theorem fullG_glob {w : World} (hs : w.ShapedOpen Tryz.prog) (hl : laidMetH Tryz.prog lrows w) : Glob (fullG w) := by
  refine ⟨?_, ?_⟩
  · obtain ⟨m, hm⟩ := cell_of_shapedOpen_int (P := Tryz.prog) (g := 0) (t := 3) (zero := #[.int .i64 0]) (k := .i64) hs (by decide +kernel) (by kernel_rfl) rfl (by kernel_rfl) (by kernel_rfl) (by kernel_rfl)
    obtain ⟨cs, hh, hsz, _⟩ := hs.1 0 #[.int .i64 0] 3 (by decide +kernel) (by kernel_rfl)
    have h1 : cs.size = 1 := hsz
    refine ⟨m, 3, ?_⟩
    unfold fullG
    rw [hh]
    simp only [World.cell?, hh] at hm
    have : cs = #[.int .i64 m] := by
      apply Array.ext_getElem?
      intro i
      match i with
      | 0 => simpa using hm
      | i + 1 => rw [Array.getElem?_eq_none (by omega), Array.getElem?_eq_none (by simp)]
    rw [this]
  · rw [MakeChecks.laidMetH_plain _ _ _ (by kernel_rfl)] at hl
    obtain ⟨ps, ⟨g0, t0, cs0, f0, p0, q0, hg0, ht0, hv0, hd0, ⟨g1, t1, cs1, f1, p1, q1, hg1, ht1, hv1, hd1, ⟨g2, t2, cs2, f2, p2, q2, hg2, ht2, hv2, hd2, _, _⟩, _⟩, _⟩, _, _⟩ := hl
    obtain rfl := Option.some.inj (gPow.symm.trans hg2)
    obtain rfl := Option.some.inj (tPow.symm.trans ht2)
    have hd2' : DataW.trod _ Tryz.prog w 0 _ false f2 331 cs2.toList = some (Rows.laid_internal_strconv_uint64pow10 (H := Unit), p2) := hd2
    rw [pow_datum] at hd2'
    have e := pow_row hd2'
    unfold World.var? at hv2
    rw [gPow] at hv2
    simp only [Option.bind_some] at hv2
    unfold fullG
    split at hv2
    · rename_i c T fr hc
      simp only [Option.some.injEq] at hv2
      subst hv2
      rw [hc]
      exact ⟨T, by rw [← e]⟩
    · cases hv2
theorem trods_len {H : Type} {enc : TypeId × Value → H} {w : World} {base : Nat} {sp : Nat → Bool} {held : Bool} : ∀ {ts : List TypeId} {vs : List Value} {ds : List (DataW H)} {ps : List MemPlace}, DataW.TrodAll enc Tryz.prog w base sp held ts vs ds ps → ds.length = ts.length
  | [], _, _, _, h => by obtain ⟨rfl, rfl, rfl⟩ := trodAll_nil h; rfl
  | _ :: _, _, _, _, h => by
    obtain ⟨v, vs1, d, ds1, a, b, rfl, rfl, rfl, h1, h2⟩ := trodAll_cons h
    simp [trods_len h2]
theorem vars_nil {H : Type} {enc : TypeId × Value → H} {w : World} {sp : Nat → Bool} {gs : List (DataW H)} {ps : List MemPlace} (h : DataW.TrodVars enc Tryz.prog w sp [] gs ps) : gs = [] ∧ ps = [] := by
  cases gs with
  | nil => exact ⟨rfl, h⟩
  | cons g r => exact absurd h (by intro h; cases h)
theorem uBool : Tryz.prog.underlying 4 = some .bool := by kernel_rfl
theorem seatLaid : laidOutB Tryz.prog = true := by kernel_rfl
set_option maxRecDepth 100000 in
theorem law_lifted {k : FuncId} {fn : Func} {s : ChangeSpec} (os : Os) (started : os.Started) {H : Type} (enc : TypeId × Value → H) (hfn : Tryz.prog.funcs[k]? = some fn) (hin : Tryz.prog.inits.idxOf? k = none)
    (hv : s.vars = []) (hs : ∀ ds : List (DataW H), ds.length = fn.params.size → s.fn H ds = { results := [.lit (.bool true)], args := ds }) (hr : fn.resultTypes = #[4])
    (hp : (fn.params.toList.all fun t => Tryz.prog.readableRec t && decide (t < Tryz.prog.types.size)) = true)
    (witness : ∃ (w : World) (tape : Tape) (i : Input), w.os = os ∧ (w.forCall tape i).Shaped Tryz.prog ∧ i.vars = [] ∧ Input.okWide Tryz.prog (w.forCall tape i) .any w.heap.size k i ∧
      ((s.pre enc Tryz.prog fn [] false (w.forCall tape i).memory i.args ∧ laidMetH Tryz.prog lrows (w.forCall tape i).memory) ∧ sizedMet enc Tryz.prog fn (OpenSpec.ofChange s) false (w.forCall tape i).memory i.args) ∧ ({} : Assume).holds Tryz.prog (lone (Frame.enter Tryz.prog k i.args .normal) [] (w.forCall tape i)))
    (body : ∀ (W : World) (base : Nat) (args : Array Value) (ds : List (DataW H)) (ps : List MemPlace), (∀ (j : Nat) t v, fn.params[j]? = some t → args[j]? = some v → Value.okWide Tryz.prog W .any base t v) →
      DataW.TrodAll enc Tryz.prog W 0 (fun _ => true) true fn.params.toList args.toList ds ps → Fits (fullG W) W → Glob (fullG W) → GivesVal Tryz.prog k args.toList W (fullG W) (.bool true)) :
    ReturnsInHanded {} Tryz.checked os k .any (fun w args => (s.pre enc Tryz.prog fn [] false w args ∧ laidMetH Tryz.prog lrows w) ∧ sizedMet enc Tryz.prog fn (OpenSpec.ofChange s) false w args) (s.post enc Tryz.prog fn false true false false) := by
  refine returnsInHanded_of_calls (C := Tryz.checked) own_seat started hin witness ?_
  intro w tape i _ hsh _ hok hpre _
  obtain ⟨_, _, _, fn', hfn', _, _, _, _, hval⟩ := hok
  obtain rfl : fn' = fn := Option.some.inj (hfn'.symm.trans hfn)
  obtain ⟨⟨⟨ds, gs, before, hw, hc⟩, hx⟩, hz⟩ := hpre
  have hw := DataW.Whole.of_heap (w' := w.forCall tape i) (by rfl) hw
  have hx : laidMetH Tryz.prog lrows (w.forCall tape i) := hx.of_heap (by rfl)
  revert hval hw hx hsh
  generalize w.forCall tape i = W
  generalize i.args = args
  intro hsh hval hw hx
  have hW := hw
  obtain ⟨p, q, hA, hV, rfl, hfz, hnd⟩ := hw
  rw [hv] at hV
  obtain ⟨rfl, rfl⟩ := vars_nil hV
  simp only [List.append_nil] at hW
  obtain ⟨_, hb⟩ := body W w.heap.size args ds p hval hA (fullG_fits W) (fullG_glob hsh hx)
  refine hb.mono fun e W' h => ?_
  obtain ⟨c, F', rfl, he, _⟩ := h
  have hbel : Below W.heap.size W W' := he.toBelow
  have hlt : ∀ x ∈ p, x.block < W.heap.size := fun x hx => hW.lt x hx
  have hres : ∀ (b : Nat) (sp : Nat → Bool) (hd : Bool), DataW.TrodAll enc Tryz.prog W' b sp hd fn'.resultTypes.toList ((Value.bool true).resultList fn'.resultTypes.size) [.lit (.bool true)] [] := fun b sp hd => by
    rw [hr]; exact trodAll_mk1 (shut_bool uBool true)
  have hstay : DataW.TrodAll enc Tryz.prog W' 0 (fun b => decide (b < W.heap.size)) true fn'.params.toList args.toList ds p :=
    trods_stay seatLaid hbel (fun t ht => by have := List.all_eq_true.1 hp t ht; simpa using this) hA hlt
  have hS : s.fn H ds = { results := [.lit (.bool true)], args := ds } := hs ds (by simpa using trods_len hA)
  refine ChangeSpec.post_blind (v := .bool true) ⟨ds, [], p, [], p, [], hW, ?_, ?_, ?_, hbel.frame _, fun h => by cases h⟩
  · simp only [List.append_nil, hS]; exact hres _ _ _
  · simp only [List.append_nil, hS]; exact hstay
  · simp only [List.append_nil, hS, hv]; rfl
end Go.Proofs.YtfdgciidfohhgaaGreatDoor

namespace Go.Proofs.YtfdgciidfohhgaaGreatDoor
open Go.RowKit Go.ChangeShapes Go.WideShapes Ig
theorem door_met (os : Os) (args : Array Value) : laidMetH Tryz.prog lrows ((World.laidAll Tryz.prog os lrows).forCall (fun _ _ => 0) ⟨#[], args, []⟩).memory := by
  rw [MakeChecks.laidMetH_plain _ _ _ (by kernel_rfl)]; exact laidMet_laidAll _ (by kernel_rfl) (by kernel_rfl)
theorem and_tt {a b : Bool} (h : a = true) (k : b = true) : (a && b) = true := by rw [h, k]; rfl
theorem pc_laid : laidOutB Tryz.checked.prog = true := seatLaid
theorem pc_maps : mapsRowed Tryz.checked.prog = true := by kernel_rfl
theorem pc_keys : (Rows.runPlaysRow.plainKeys == Tryz.checked.prog.plainKeys) = true := by kernel_rfl
theorem pc_heard : Tryz.checked.prog.stopsHeard = true := by kernel_rfl
theorem pc_enter : Tryz.checked.prog.mayEnter = true := by kernel_rfl
theorem pc_lift : (Rows.runPlaysRow.lifted == Tryz.checked.prog.liftsFinal) = true := by kernel_rfl
theorem pc_make : (Tryz.checked.prog.make == some Rows.runPlaysRow.make) = true := by kernel_rfl
theorem pc_main : Tryz.checked.prog.mainIs = some (true, "ae0898d450fd1c0dd9d3f1cbd2a28d66abb8f24060f615f480e48cd27d7cefaf".toList) := by kernel_rfl
theorem pc_looks : true = Tryz.checked.prog.looks [] := by kernel_rfl
end Go.Proofs.YtfdgciidfohhgaaGreatDoor

namespace Go.Proofs.YtfdgciidfohhgaaGreatDoor
open Go.RowKit Ig
section
variable [Dr] [df : Df]
section
variable {P : Program} {Q : Exit → Act → World → Prop} {N : Nat} {m : Sl} {E E0 : Env} {ops : Array Oper} {l : List Oper} {w0 : World} {F0 : Gs} {bs : List (Nat × Obj)} {G : Gs → Prop}
theorem St.perm {bs' : List (Nat × Obj)} {w : World} (h : St ⟨w0, F0, bs, G⟩ w) (hp : bs.Perm bs') : St ⟨w0, F0, bs', G⟩ w := by
  obtain ⟨F, h⟩ := h
  exact ⟨F, h.le, h.old, h.fits, h.ext, fun k hk => h.bx k (hp.mem_iff.2 hk), (hp.map _).nodup_iff.1 h.nd, h.g⟩
section
variable {d : Nat} {ty : TypeId} {pos : String} {aft : Array Edge} {f : FuncId} {args : Array Operand} {tys : Array TypeId} {vs : List Value} {γ : Type} {val : γ → Value} {E' : γ → Env} {bs1 : List (Nat × Obj)}
end
theorem JS_perm {bs' : List (Nat × Obj)} (hp : bs.Perm bs') (k : JS P ops Q l N m ⟨w0, F0, bs', G⟩) : JS P ops Q l N m ⟨w0, F0, bs, G⟩ := fun a w ha hw => k a w ha (hw.perm hp)
end
end
end Go.Proofs.YtfdgciidfohhgaaGreatDoor

namespace Go.Proofs.YtfdgciidfohhgaaGreatDoor
open Go.RowKit Ig
section
variable [Dr] [df : Df] {P : Program} {Q : Exit → Act → World → Prop} {N : Nat} {m : Sl} {E E0 : Env} {ops : Array Oper} {l : List Oper} {w0 : World} {F0 : Gs} {bs : List (Nat × Obj)} {G : Gs → Prop}
theorem St.allocF {w : World} (h : St ⟨w0, F0, bs, G⟩ w) (c : Array Value) (T : TypeId) : St ⟨w0, F0, bs, fun F => G F ∧ F w.heap.size = some (c, T)⟩ (w.alloc (.cells c T)) := by
  obtain ⟨F, h⟩ := h
  have hnone := h.fits.none (Nat.le_refl w.heap.size)
  have hle : Gs.le F (fun i => if i = w.heap.size then some (c, T) else F i) := fun i x hx => by
    by_cases e : i = w.heap.size
    · subst e; rw [hnone] at hx; cases hx
    · show (if _ then _ else _) = _
      rw [if_neg e]; exact hx
  have hnew : (w.alloc (.cells c T)).heap[w.heap.size]? = some (.cells c T) := by show (w.heap.push _)[_]? = _; simp
  refine ⟨_, Gs.le_trans h.le hle, fun b hb => ?_, ⟨fun b c' T' hb => ?_, fun b c' fr hb => ?_⟩, h.ext.alloc _, fun k hk => ?_, h.nd, fun F' hF' => ⟨h.g F' (Gs.le_trans hle hF'), hF' _ _ (if_pos rfl)⟩⟩
  · have hb2 : b < w.heap.size := Nat.lt_of_lt_of_le hb h.ext.size
    rw [if_neg (by omega)]; exact h.old b hb
  · by_cases e : b = w.heap.size
    · subst e; rw [if_pos rfl] at hb; cases hb; exact ⟨_, hnew⟩
    · rw [if_neg e] at hb
      obtain ⟨fr, e2⟩ := h.fits.row b c' T' hb
      exact ⟨fr, by rw [Below.heap_alloc _ _ _ (h.fits.lt hb)]; exact e2⟩
  · by_cases e : b = w.heap.size
    · subst e; rw [hnew] at hb; cases hb; show (if _ then _ else _) = _; rw [if_pos rfl]
    · show (if _ then _ else _) = _
      rw [if_neg e]
      have hlt : b < w.heap.size := by
        rcases Nat.lt_or_ge b w.heap.size with g | g
        · exact g
        · exfalso
          have : (w.heap.push (.cells c T))[b]? = some (.cells c' 231 fr) := hb
          rw [Array.getElem?_eq_none (by simp; omega)] at this; cases this
      rw [Below.heap_alloc _ _ _ hlt] at hb
      exact h.fits.all b c' fr hb
  · obtain ⟨h1, h2, h3⟩ := h.bx k hk
    have hlt : k.1 < w.heap.size := by
      rcases Nat.lt_or_ge k.1 w.heap.size with g | g
      · exact g
      · rw [Array.getElem?_eq_none g] at h1; cases h1
    exact ⟨by rw [Below.heap_alloc _ _ _ hlt]; exact h1, h2, by rw [if_neg (by omega)]; exact h3⟩
section
variable {d : Nat} {ty : TypeId} {pos : String} {aft : Array Edge}
theorem JS_buildSliceF {t e : TypeId} {n sz : Nat} {z : List Value} {g : Bool} {parts : Array (Nat × Operand)} {ps : List (Nat × Value)} {cs : List Value} (hp : partsV m parts.toList = some ps) (ht : P.underlying t = some (.slice e)) (hs : tyB P e = some (g, sz)) (hz : zeroB P e = some z)
    (hc : litCells sz 0 ps = some cs) (hl : cs.length = n * sz) (k : ∀ b, JS P ops Q l N ((d, .slice (some ⟨b, 0, none⟩) n n) :: m) ⟨w0, F0, bs, fun F => G F ∧ F b = some (cs.toArray, e)⟩) (h24 : Nat.ble (n * sz) 16777216 = true := by rfl) (hn : Nat.beq (n * sz) 0 = false := by rfl)
    (hd : dstOk N (some d) = true := by rfl) : JS P ops Q (⟨some d, .buildSlice t n parts, ty, pos, aft, none⟩ :: l) N m ⟨w0, F0, bs, G⟩ := fun a w ha hw =>
  wpList_plain rfl fun _ hK => upon_value (run_buildSliceOp ha hp ht hs hz hc hl h24 hn) (hK _ _ (k _ _ _ (ha.put hd _) (hw.allocF _ _)))
theorem JS_app {t e : TypeId} {sz bytes n k : Nat} {z : List Value} {g : Bool} {X Y : Operand} {x y : Value} {olds news : List Value} {ob bs1 : List (Nat × Obj)} (hx : ev m X = some x) (hy : ev m Y = some y) (ht : slB P t = some e) (hs : tyB P e = some (g, sz)) (hz : zeroB P e = some z) (hzl : z.length = sz) (hby : bytesB P e = some bytes)
    (hr : OwnRow e sz x n olds ob) (hs2 : Src ⟨w0, F0, bs1 ++ ob, G⟩ sz y k news) (h63 : n + k ≤ 9223372036854775807) (h47 : (n + k) * bytes ≤ 140737488355328) (h1 : ∀ v ∈ news, v.oneCell' = true)
    (kk : ∀ v' ob', OwnRow e sz v' (n + k) (olds ++ news) ob' → JS P ops Q l N ((d, v') :: m) ⟨w0, F0, bs1 ++ ob', G⟩) (hu : notU e = true := by rfl) (hd : dstOk N (some d) = true := by rfl) :
    JS P ops Q (⟨some d, .call ⟨.builtin .append, #[X, Y], #[t, t]⟩, ty, pos, aft, none⟩ :: l) N m ⟨w0, F0, bs1 ++ ob, G⟩ :=
  JS_perm List.perm_append_comm (JS_append hx hy ht hs hz hzl hby hr ⟨hs2.len, hs2.rd.imp id fun ⟨a, c, e1, e2⟩ => ⟨a, c, e1, fun w hw => e2 w (hw.perm List.perm_append_comm)⟩⟩ h63 h47 h1
    (fun v' ob' h => JS_perm List.perm_append_comm (kk v' ob' h)) hu hd)
end
end
end Go.Proofs.YtfdgciidfohhgaaGreatDoor

namespace Go.Proofs.YtfdgciidfohhgaaGreatDoor
open Go.RowKit Ig
def hd (q : Nat) : List UInt8 := if q = 0 then [] else Lib.decDigits q
end Go.Proofs.YtfdgciidfohhgaaGreatDoor

namespace Go.Proofs.YtfdgciidfohhgaaGreatDoor
open Go.RowKit Ig
def RowR (F : Gs) (q : Option Addr) (n sz : Nat) (cs : List Value) : Prop :=
  cs.length = n * sz ∧ (0 < n → ∃ b off arr T, q = some ⟨b, off, none⟩ ∧ F b = some (arr, T) ∧ ∀ j u, cs[j]? = some u → arr[off + j]? = some u)
theorem RowR.le {F F' : Gs} {q : Option Addr} {n sz : Nat} {cs : List Value} (h : RowR F q n sz cs) (k : Gs.le F F') : RowR F' q n sz cs :=
  ⟨h.1, fun hn => by obtain ⟨b, off, arr, T, e1, e2, e3⟩ := h.2 hn; exact ⟨b, off, arr, T, e1, k _ _ e2, e3⟩⟩
theorem RowR.of {F : Gs} {b n sz : Nat} {cs : List Value} {T : TypeId} (h : F b = some (cs.toArray, T)) (hl : cs.length = n * sz) : RowR F (some ⟨b, 0, none⟩) n sz cs :=
  ⟨hl, fun _ => ⟨b, 0, _, T, rfl, h, fun j u hu => by rw [Nat.zero_add]; simpa using hu⟩⟩
theorem RowR.nil (F : Gs) (q : Option Addr) (sz : Nat) : RowR F q 0 sz [] := ⟨by simp, fun h => absurd h (Nat.lt_irrefl 0)⟩
theorem RowR.ptr {F : Gs} {q : Option Addr} {n sz : Nat} {cs : List Value} (h : RowR F q n sz cs) (hn : 0 < n) : ∃ b off, q = some ⟨b, off, none⟩ := by
  obtain ⟨b, off, _, _, e, _⟩ := h.2 hn; exact ⟨b, off, e⟩
section
variable [Dr] [df : Df] {P : Program} {Q : Exit → Act → World → Prop} {N : Nat} {m : Sl} {E E0 : Env} {ops : Array Oper} {l : List Oper} {w0 : World} {F0 : Gs} {bs : List (Nat × Obj)} {G : Gs → Prop}
theorem cell_of_RowR {w : World} (hw : St ⟨w0, F0, bs, G⟩ w) {b off n sz j : Nat} {cs : List Value} {u : Value} (hr : ∀ F, G F → RowR F (some ⟨b, off, none⟩) n sz cs) (hn : 0 < n) (hu : cs[j]? = some u) : w.cell? ⟨b, off + j, none⟩ = some u := by
  obtain ⟨F, hw⟩ := hw
  obtain ⟨b', off', arr, T, e, hF, ha⟩ := (hr F hw.hG).2 hn
  simp only [Option.some.injEq, Addr.mk.injEq] at e
  obtain ⟨rfl, rfl, _⟩ := e
  obtain ⟨fr, e⟩ := hw.fits.row _ _ _ hF
  simp [World.cell?, e, ha j u hu]
theorem q_loadRR {T ty : TypeId} {x : Operand} {b off n sz k j : Nat} {cs : List Value} {u : Value} (hx : ev m x = some (.pointer (some ⟨b, off + j, none⟩))) (ht : tyB P T = some (false, k)) (hr : ∀ F, G F → RowR F (some ⟨b, off, none⟩) n sz cs) (hn : 0 < n) (hu : cs[j]? = some u) :
    Qt P N m (St ⟨w0, F0, bs, G⟩) (.load T x) ty u := fun a w _ _ _ _ ha hw => by
  have hrun := run_loadVar1 (P := P) ht (cell_of_RowR hw hr hn hu)
  simp only [execOp, ha.ev hx, Instr.loadAt, Instr.sureAddr, Sem.run_bind, Sem.run_pure, Result.andThen_ok, hrun]
end
section
variable [Dr] [df : Df] {P : Program} {Q : Exit → Act → World → Prop} {N : Nat} {m : Sl} {E E0 : Env} {ops : Array Oper} {l : List Oper} {ty : TypeId} {pos : String} {aft : Array Edge} {o : Op} {g t : Nat} {want : Bool}
end
def firstZ : List Int → Int
  | [] => 0
  | x :: l => if x = 0 then firstZ l else x
theorem firstZ_skip {l : List Int} {i : Nat} (hi : i < l.length) (h : l[i] = 0) : firstZ (l.drop i) = firstZ (l.drop (i + 1)) := by
  rw [List.drop_eq_getElem_cons hi, firstZ, if_pos h]
theorem firstZ_hit {l : List Int} {i : Nat} (hi : i < l.length) (h : l[i] ≠ 0) : firstZ (l.drop i) = l[i] := by
  rw [List.drop_eq_getElem_cons hi, firstZ, if_neg h]
def i64c (x : Int) : Value := .int .i64 x
end Go.Proofs.YtfdgciidfohhgaaGreatDoor

namespace Go.Proofs.YtfdgciidfohhgaaGreatDoor
open Go.RowKit Go.ChangeShapes Go.WideShapes Ig
theorem flat_cells {α : Type} {f : α → List Value} {k off : Nat} {c : Array Value} (hf : ∀ x, (f x).length = k) : ∀ (l : List α) (i0 : Nat), (∀ i x, l[i]? = some x → ∀ j, j < k → c[off + (i0 + i) * k + j]? = (f x)[j]?) → ∀ p u, (l.flatMap f)[p]? = some u → c[off + i0 * k + p]? = some u
  | [], _, _, p, u, e => by simp at e
  | x :: l, i0, h, p, u, e => by
    rw [List.flatMap_cons] at e
    rcases Nat.lt_or_ge p k with g | g
    · rw [List.getElem?_append_left (by rw [hf]; exact g)] at e
      have := h 0 x rfl p g
      rw [Nat.add_zero] at this
      rw [this, e]
    · rw [List.getElem?_append_right (by rw [hf]; exact g), hf] at e
      have := flat_cells hf l (i0 + 1) (fun i y hy j hj => by
        have := h (i + 1) y (by simpa using hy) j hj
        rwa [show i0 + (i + 1) = i0 + 1 + i by omega] at this) (p - k) u e
      rwa [show off + (i0 + 1) * k + (p - k) = off + i0 * k + p by rw [Nat.add_mul, Nat.one_mul]; omega] at this
theorem addr_add {b off n : Nat} : (⟨b, off, none⟩ : Addr).add n = ⟨b, off + n, none⟩ := by
  unfold Addr.add
  split
  · rename_i h; rw [h, Nat.add_zero]
  · rfl
section
variable {H : Type} {enc : TypeId × Value → H} {w : World}
theorem cells_get {a : Addr} {n : Nat} {cs : List Value} (h : w.cells? 0 a n = some cs) : cs.length = n ∧ ∀ i, i < n → w.cell? (a.add i) = cs[i]? := by
  unfold World.cells? at h
  rw [if_pos (Nat.zero_le _)] at h
  exact ⟨by simpa using mapM_some_length h, fun i hi => by simpa using mapM_some_get h i i (by simp [hi])⟩
theorem row_cells {fuel : Nat} {cs : List Value} {x : DataW H × List MemPlace} {t e : TypeId} {sz : Nat} {α : Type} {f : α → List Value} {Q : α → Prop} (ht : Tryz.prog.underlying t = some (.slice e)) (hc : Tryz.prog.cellsOf e = sz) (h0 : 0 < sz) (hf : ∀ x, (f x).length = sz)
    (hel : ∀ (n : Nat) (cs : List Value) (x : DataW H × List MemPlace), DataW.trod enc Tryz.prog w 0 (fun _ => true) true n e cs = some x → ∃ y, cs = f y ∧ Q y)
    (hh : DataW.trod enc Tryz.prog w 0 (fun _ => true) true fuel t cs = some x) :
    ∃ (q : Option Addr) (n cap : Nat) (l : List α), cs = [.slice q n cap] ∧ RowR (fullG w) q n sz (l.flatMap f) ∧ l.length = n ∧ n ≤ 9223372036854775807 ∧ (∀ y ∈ l, Q y) ∧ n ≤ cap := by
  rcases DataW.trod_slice ht hh with ⟨e0, _⟩ | ⟨a', len, cap, elems, rest, n, _, e0, _, _, h1, h2, hlen, hg, _, _⟩
  · exact ⟨none, 0, 0, [], e0, RowR.nil _ _ _, rfl, Nat.zero_le _, fun y hy => (by cases hy), Nat.le_refl _⟩
  · subst e0
    rw [hc] at hg
    have key : ∀ i, i < len → ∃ y : α, w.cells? 0 (a'.add (i * sz)) sz = some (f y) ∧ Q y := fun i hi => by
      have e := hg i hi
      rw [List.getElem?_eq_getElem (by omega), Option.bind_eq_some_iff] at e
      obtain ⟨cs, hcs, htr⟩ := e
      obtain ⟨y, rfl, hq⟩ := hel _ _ _ htr
      exact ⟨y, hcs, hq⟩
    have hm : len ≤ 9223372036854775807 := by have := h2; unfold maxLen at this; omega
    have build : ∀ m, m ≤ len → ∃ l : List α, l.length = m ∧ (∀ i x, l[i]? = some x → w.cells? 0 (a'.add (i * sz)) sz = some (f x)) ∧ ∀ y ∈ l, Q y := by
      intro m
      induction m with
      | zero => exact fun _ => ⟨[], rfl, fun i x e => by simp at e, fun y hy => by cases hy⟩
      | succ m ih =>
        intro hm'
        obtain ⟨l, hl, hx, hQ⟩ := ih (by omega)
        obtain ⟨y, hy, hq⟩ := key m (by omega)
        refine ⟨l ++ [y], by simp [hl], fun i x e => ?_, fun z hz => by rcases List.mem_append.1 hz with hz | hz; exact hQ z hz; rw [List.mem_singleton.1 hz]; exact hq⟩
        rcases Nat.lt_or_ge i m with g | g
        · rw [List.getElem?_append_left (by omega)] at e; exact hx i x e
        · have : i = m := by
            have := (List.getElem?_eq_some_iff.1 e).1
            simp at this; omega
          subst this
          rw [List.getElem?_append_right (by omega), hl, Nat.sub_self] at e
          simp only [List.getElem?_cons_zero, Option.some.injEq] at e
          rw [← e]; exact hy
    obtain ⟨l, hl, hx, hQ⟩ := build len (Nat.le_refl _)
    refine ⟨some a', len, cap, l, rfl, ⟨?_, fun hn => ?_⟩, hl, hm, hQ, h1⟩
    · rw [List.length_flatMap]
      have : ∀ l : List α, (l.map fun x => (f x).length).sum = l.length * sz := fun l => by
        induction l with
        | nil => simp
        | cons x l ih => rw [List.map_cons, List.sum_cons, ih, hf, List.length_cons, Nat.add_mul]; omega
      rw [this, hl]
    · have c0 := hx 0 (l[0]'(by omega)) (List.getElem?_eq_getElem _)
      have g0 := (cells_get c0).2 0 h0
      have hs : (f (l[0]'(by omega)))[0]? = some ((f (l[0]'(by omega)))[0]'(by rw [hf]; exact h0)) := List.getElem?_eq_getElem _
      rw [hs, Nat.zero_mul] at g0
      have ea : (a'.add 0).add 0 = a' := rfl
      rw [ea] at g0
      obtain ⟨b', off, spot⟩ := a'
      unfold World.cell? at g0
      split at g0
      · rename_i c T fr hheap
        split at g0
        · cases g0
        · rename_i hsp
          have : spot = none := by cases spot with
            | none => rfl
            | some s => simp at hsp
          subst this
          refine ⟨b', off, c, T, rfl, by unfold fullG; rw [hheap], fun j u hu => ?_⟩
          have := flat_cells (off := off) (c := c) hf l 0 (fun i x e j hj => ?_) j u hu
          · rwa [Nat.zero_mul, Nat.add_zero] at this
          · have := (cells_get (hx i x e)).2 j hj
            rw [addr_add, addr_add] at this
            unfold World.cell? at this
            rw [hheap] at this
            simpa using this
      · cases g0
set_option maxRecDepth 100000 in
theorem open_rowQ {b : Nat} {v : Value} {d : DataW H} {p : List MemPlace} {t e : TypeId} {sz : Nat} {α : Type} {f : α → List Value} {Q : α → Prop} (ht : Tryz.prog.underlying t = some (.slice e)) (hc : Tryz.prog.cellsOf e = sz) (h0 : 0 < sz) (hf : ∀ x, (f x).length = sz)
    (hel : ∀ (n : Nat) (cs : List Value) (x : DataW H × List MemPlace), DataW.trod enc Tryz.prog w 0 (fun _ => true) true n e cs = some x → ∃ y, cs = f y ∧ Q y)
    (hv : Value.okWide Tryz.prog w .any b t v) (h : DataW.Trod enc Tryz.prog w 0 (fun _ => true) true t v d p) :
    ∃ (q : Option Addr) (n cap : Nat) (l : List α), v = .slice q n cap ∧ RowR (fullG w) q n sz (l.flatMap f) ∧ l.length = n ∧ n ≤ 9223372036854775807 ∧ ∀ y ∈ l, Q y := by
  obtain ⟨a, len, cap, rfl⟩ := okWide_slice ht hv
  obtain ⟨fuel, hh⟩ := h
  obtain ⟨q, n, cap', l, e0, h1, h2, h3, h4, _⟩ := row_cells ht hc h0 hf hel hh
  have e0 : [Value.slice a len cap] = [.slice q n cap'] := e0
  simp only [List.cons.injEq, Value.slice.injEq, and_true] at e0
  obtain ⟨rfl, rfl, rfl⟩ := e0
  exact ⟨a, len, cap, l, rfl, h1, h2, h3, h4⟩
end
end Go.Proofs.YtfdgciidfohhgaaGreatDoor

namespace Go.Proofs.YtfdgciidfohhgaaGreatDoor
open Go.RowKit Ig
section
variable {P : Program} {N : Nat} {m : Sl} {Y : World → Prop} {ty : TypeId}
end
def RowD (F : Gs) (r : Sr) (l : List Int) : Prop := RowR F r.q r.n 1 (l.map i64c) ∧ l.length = r.n ∧ r.n ≤ r.cap
end Go.Proofs.YtfdgciidfohhgaaGreatDoor

namespace Go.Proofs.YtfdgciidfohhgaaGreatDoor
open Go.RowKit Ig
theorem OwnRow.fix {w0 : World} {F0 : Gs} {bs1 ob : List (Nat × Obj)} {G : Gs → Prop} {T : TypeId} {sz n : Nat} {v : Value} {cs : List Value} (hr : OwnRow T sz v n cs ob) :
    ∃ r : Sr, v = r.v ∧ r.n = n ∧ n ≤ r.cap ∧ ∀ w, St ⟨w0, F0, bs1 ++ ob, G⟩ w → St ⟨w0, F0, bs1, fun F => G F ∧ RowR F r.q n sz cs⟩ w := by
  cases hr with
  | nil => exact ⟨⟨Option.none, 0, 0⟩, rfl, rfl, Nat.le_refl _, fun w hw => by
      have := hw.impG (G' := fun F => G F ∧ RowR F Option.none 0 sz []) (fun F h => ⟨h, RowR.nil F Option.none sz⟩)
      simpa using this⟩
  | some h1 h2 h3 h4 =>
    rename_i b cap rest
    refine ⟨⟨Option.some ⟨b, 0, Option.none⟩, n, cap⟩, rfl, rfl, h3, fun w hw => ?_⟩
    have := St.freeze (pre := bs1) (post := []) (b := b) hw
    rw [List.append_nil] at this
    refine this.impG fun F h => ⟨h.1, h1, fun _ => ⟨b, 0, _, T, rfl, h.2, fun j u hu => ?_⟩⟩
    have hj : j < cs.length := by rcases Nat.lt_or_ge j cs.length with g | g; exact g; rw [List.getElem?_eq_none g] at hu; cases hu
    rw [Nat.zero_add]
    simp only [List.getElem?_toArray]
    rw [List.getElem?_append, if_pos hj]; exact hu
end Go.Proofs.YtfdgciidfohhgaaGreatDoor

namespace Go.Proofs.YtfdgciidfohhgaaGreatDoor
open Go.RowKit Go.ChangeShapes Go.WideShapes Ig
theorem flat1 {α : Type} (f : α → Value) : ∀ (l : List α), l.flatMap (fun x => [f x]) = l.map f
  | [] => rfl
  | x :: l => by rw [List.flatMap_cons, flat1 f l]; rfl
section
variable {H : Type} {enc : TypeId × Value → H} {w : World}
theorem int8_cells (n : Nat) (cs : List Value) (x : DataW H × List MemPlace) (h : DataW.trod enc Tryz.prog w 0 (fun _ => true) true n 32 cs = some x) : ∃ y : Int, cs = [.int .i8 y] ∧ -128 ≤ y ∧ y ≤ 127 := by
  obtain ⟨z, rfl, _, hw⟩ := DataW.trod_int Tryz.underlying32 h
  exact ⟨z, rfl, by simpa [Lit.wf, IntKind.min, IntKind.max, IntKind.signed, IntKind.bits] using hw⟩
set_option maxRecDepth 100000 in
theorem open_ints8 {b : Nat} {v : Value} {d : DataW H} {p : List MemPlace} (hv : Value.okWide Tryz.prog w .any b 31 v) (h : DataW.Trod enc Tryz.prog w 0 (fun _ => true) true 31 v d p) :
    ∃ (q : Option Addr) (n cap : Nat) (l : List Int), v = .slice q n cap ∧ RowR (fullG w) q n 1 (l.map fun y => Value.int .i8 y) ∧ l.length = n ∧ n ≤ 9223372036854775807 ∧ ∀ y ∈ l, -128 ≤ y ∧ y ≤ 127 := by
  obtain ⟨q, n, cap, l, h1, h2, h3⟩ := open_rowQ (f := fun y : Int => [.int .i8 y]) (Q := fun y => -128 ≤ y ∧ y ≤ 127) Tryz.underlying31 (show Tryz.prog.cellsOf 32 = 1 by kernel_rfl) (by decide) (fun _ => rfl) int8_cells hv h
  exact ⟨q, n, cap, l, h1, by rw [← flat1]; exact h2, h3⟩
set_option maxRecDepth 100000 in
theorem open_u16 {b : Nat} {v : Value} {d : DataW H} {p : List MemPlace} {t : TypeId} (ht : Tryz.prog.underlying t = some (.int .u16)) (hv : Value.okWide Tryz.prog w .any b t v) (h : DataW.Trod enc Tryz.prog w 0 (fun _ => true) true t v d p) : ∃ z : Int, v = .int .u16 z ∧ 0 ≤ z ∧ z ≤ 65535 := by
  obtain ⟨z, rfl, _, _, hw⟩ := open_int ht hv h
  exact ⟨z, rfl, by simpa [Lit.wf, IntKind.min, IntKind.max, IntKind.signed, IntKind.bits] using hw⟩
end
end Go.Proofs.YtfdgciidfohhgaaGreatDoor

namespace Go.Proofs.YtfdgciidfohhgaaGreatDoor
open Go.RowKit Ig
theorem J_fix {P : Program} {Q : Exit → Act → World → Prop} {c : Code} {N : Nat} {m : Sl} {E E' : Env} (h : ∀ w, St E w → St E' w) (k : J P c Q N m E') : J P c Q N m E := fun a w ha hw => k a w ha (h w hw)
end Go.Proofs.YtfdgciidfohhgaaGreatDoor

namespace Go.Proofs.YtfdgciidfohhgaaGreatDoor
open Go.RowKit Ig
def el {α : Type} [Inhabited α] (l : List α) (i : Nat) : α := l.getD i default
theorem el_lt {α : Type} [Inhabited α] {l : List α} {i : Nat} (h : i < l.length) : el l i = l[i] := by simp [el, h]
theorem el_mem {α : Type} [Inhabited α] {l : List α} {i : Nat} (h : i < l.length) : el l i ∈ l := by rw [el_lt h]; exact List.getElem_mem h
theorem map_el {α : Type} [Inhabited α] {f : α → Value} {l : List α} {i : Nat} (h : i < l.length) : (l.map f)[i * 1]? = some (f (el l i)) := by
  rw [Nat.mul_one, List.getElem?_map, List.getElem?_eq_getElem h, el_lt h]; rfl
theorem take_el {α : Type} [Inhabited α] {l : List α} {i : Nat} (h : i < l.length) : l.take (i + 1) = l.take i ++ [el l i] := by
  rw [List.take_succ_eq_append_getElem h, el_lt h]
def qblk (q : Option Addr) : Nat := (q.getD ⟨0, 0, none⟩).block
def qoff (q : Option Addr) : Nat := (q.getD ⟨0, 0, none⟩).off
section
variable [Dr] [df : Df] {P : Program} {Q : Exit → Act → World → Prop} {N : Nat} {m : Sl} {E E0 : Env} {ops : Array Oper} {l : List Oper} {w0 : World} {F0 : Gs} {bs : List (Nat × Obj)} {G : Gs → Prop} {ty : TypeId}
theorem q_idxQ {T e : TypeId} {x y : Operand} {q : Option Addr} {n c sz sz' : Nat} {g : Bool} {cs : List Value} (i : Nat) (hr : ∀ F, G F → RowR F q n sz' cs) (hx : ev m x = some (.slice q n c)) (hy : ev m y = some (.int .i64 (i : Int))) (hT : slB P T = some e) (hs : tyB P e = some (g, sz)) (hi : i < n) :
    Qt P N m (St ⟨w0, F0, bs, G⟩) (.indexAddr T x y) ty (.pointer (some ⟨qblk q, qoff q + i * sz, none⟩)) := fun a w _ _ _ _ ha hw => by
  obtain ⟨F, hF⟩ := id hw
  obtain ⟨b, off, rfl⟩ := (hr F hF.hG).ptr (by omega)
  exact q_idxAddr hx hy hT hs hi a w _ _ _ _ ha hw
theorem q_loadQ {T : TypeId} {x : Operand} {q : Option Addr} {n sz k : Nat} {cs : List Value} (j : Nat) {u : Value} (hr : ∀ F, G F → RowR F q n sz cs) (hn : 0 < n) (hx : ev m x = some (.pointer (some ⟨qblk q, qoff q + j, none⟩))) (ht : tyB P T = some (false, k)) (hu : cs[j]? = some u) :
    Qt P N m (St ⟨w0, F0, bs, G⟩) (.load T x) ty u := fun a w _ _ _ _ ha hw => by
  obtain ⟨F, hF⟩ := id hw
  obtain ⟨b, off, rfl⟩ := (hr F hF.hG).ptr hn
  exact q_loadRR hx ht hr hn hu a w _ _ _ _ ha hw
theorem SubSl.append {m : Sl} : ∀ {k l : Sl}, SubSl m k → SubSl m l → SubSl m (k ++ l)
  | [], _, _, h => h
  | (_, _) :: _, _, ⟨h1, h2⟩, h => ⟨h1, SubSl.append h2 h⟩
theorem J_loopS {ι : Type} {c : Code} (K : Sl) (M : ι → Sl) (B : ι → List (Nat × Obj)) (R : ι → Gs → Prop) (μ : ι → Nat) (i0 : ι)
    (hk : SubSl m K) (hm : SubSl m (M i0)) (hb : (B i0).Sublist bs) (hg : ∀ F, G F → R i0 F)
    (round : ∀ i, J P c (Exit.then (Again N w0 F0 (fun i => K ++ M i) B (fun i F => G F ∧ R i F) μ i) Q) N (K ++ M i) ⟨w0, F0, B i, fun F => G F ∧ R i F⟩) : J P (.loop c) Q N m ⟨w0, F0, bs, G⟩ :=
  J_loop (fun i => K ++ M i) B (fun i F => G F ∧ R i F) μ i0 (hk.append hm) hb (fun F h => ⟨h, hg F h⟩) round
theorem J_loopT {ι : Type} {c : Code} (K : Sl) (M : ι → Sl) (μ : ι → Nat) (i0 : ι) (hk : SubSl m K) (hm : SubSl m (M i0))
    (round : ∀ i, J P c (Exit.then (Again N w0 F0 (fun i => K ++ M i) (fun _ => bs) (fun _ => G) μ i) Q) N (K ++ M i) ⟨w0, F0, bs, G⟩) : J P (.loop c) Q N m ⟨w0, F0, bs, G⟩ :=
  J_loop (fun i => K ++ M i) (fun _ => bs) (fun _ => G) μ i0 (hk.append hm) (List.Sublist.refl _) (fun _ h => h) round
end
end Go.Proofs.YtfdgciidfohhgaaGreatDoor

namespace Go.Proofs.YtfdgciidfohhgaaGreatDoor
open Go.RowKit Ig
theorem JS_fix {P : Program} {Q : Exit → Act → World → Prop} {ops : Array Oper} {l : List Oper} {N : Nat} {m : Sl} {E E' : Env} (h : ∀ w, St E w → St E' w) (k : JS P ops Q l N m E') : JS P ops Q l N m E := fun a w ha hw => k a w ha (h w hw)
end Go.Proofs.YtfdgciidfohhgaaGreatDoor

namespace Go.Proofs.YtfdgciidfohhgaaGreatDoor
open Go.RowKit Ig
structure ScanI {α : Type} (l : List α) (f : α → Int) where
  i : Nat
  le : i ≤ l.length
  h : firstZ (l.map f) = firstZ ((l.map f).drop i)
section
variable {α : Type} [Inhabited α] {l : List α} {f : α → Int}
theorem map_get {i : Nat} (hi : i < l.length) : (l.map f)[i]'(by simpa using hi) = f (el l i) := by rw [List.getElem_map, el_lt hi]
def ScanI.next (s : ScanI l f) (hi : s.i < l.length) (h : f (el l s.i) = 0) : ScanI l f := ⟨s.i + 1, hi, by
  rw [s.h, firstZ_skip (by simpa using hi) (by rw [map_get hi]; exact h)]⟩
theorem ScanI.hit (s : ScanI l f) (hi : s.i < l.length) (h : f (el l s.i) ≠ 0) : firstZ (l.map f) = f (el l s.i) := by
  rw [s.h, firstZ_hit (by simpa using hi) (by rw [map_get hi]; exact h), map_get hi]
theorem ScanI.stop (s : ScanI l f) (hi : l.length ≤ s.i) : firstZ (l.map f) = 0 := by
  rw [s.h, List.drop_of_length_le (by simpa using hi)]; rfl
end
def ScanI.start {α : Type} (l : List α) (f : α → Int) : ScanI l f := ⟨0, Nat.zero_le _, rfl⟩
section
variable {α : Type} [Inhabited α] {l : List α} {p : α → Bool}
end
end Go.Proofs.YtfdgciidfohhgaaGreatDoor

namespace Ig
def lexgt : List Int → List Int → Bool
  | x :: a, y :: b => decide (y < x) || (decide (x = y) && lexgt a b)
  | _ :: _, [] => true
  | [], _ => false
def before (a b : List Int) : Bool := decide (b.sum < a.sum) || (decide (a.sum = b.sum) && lexgt a b)
end Ig

namespace Go.Proofs.YtfdgciidfohhgaaGreatDoor
open Go.RowKit Ig
structure ATm where
  f : List UInt8
  r : Sr
  k : List Int
section
variable {P : Program} {w : World} {F : Gs} {f : FuncId} {args : List Value} {γ : Type} {val : γ → Value} {fact : γ → Gs → Prop}
end
section
end
end Go.Proofs.YtfdgciidfohhgaaGreatDoor

namespace Go.Proofs.YtfdgciidfohhgaaGreatDoor
open Go.RowKit Ig
theorem firstZ_all {l : List Int} (h : firstZ l = 0) : ∀ x ∈ l, x = 0 := by
  induction l with
  | nil => intro x hx; cases hx
  | cons a l ih =>
    intro x hx
    unfold firstZ at h
    by_cases g : a = 0
    · rw [if_pos g] at h
      rcases List.mem_cons.1 hx with rfl | hx
      · exact g
      · exact ih h x hx
    · rw [if_neg g] at h; exact absurd h g
end Go.Proofs.YtfdgciidfohhgaaGreatDoor

namespace Go.Proofs.YtfdgciidfohhgaaGreatDoor
open Go.RowKit Ig
structure NonI {α : Type} (l : List α) (p : α → Bool) where
  i : Nat
  le : i ≤ l.length
  z : ∀ x ∈ l.take i, p x = false
section
variable {α : Type} [Inhabited α] {l : List α} {p : α → Bool}
def NonI.start (l : List α) (p : α → Bool) : NonI l p := ⟨0, Nat.zero_le _, by simp⟩
def NonI.next (s : NonI l p) (h : s.i < l.length) (e : p (el l s.i) = false) : NonI l p := ⟨s.i + 1, h, fun x hx => by
  rw [take_el h] at hx
  rcases List.mem_append.1 hx with hx | hx
  · exact s.z x hx
  · rw [List.mem_singleton.1 hx]; exact e⟩
theorem NonI.stop (s : NonI l p) (h : l.length ≤ s.i) : ¬ l.any p = true := by
  rw [List.any_eq_true]
  rintro ⟨x, hx, e⟩
  have := s.z x (by rw [List.take_of_length_le h]; exact hx)
  rw [this] at e; cases e
end
end Go.Proofs.YtfdgciidfohhgaaGreatDoor

namespace Go.Proofs.YtfdgciidfohhgaaGreatDoor
open Go.RowKit Ig
def seeZ (l s x : Int) : Int := if x < (if x - l > s then x - l else s) then x else (if x - l > s then x - l else s)
def playL (l : Int) : Int → List Int → List Int
  | _, [] => []
  | s, x :: r => seeZ l s x :: playL l (seeZ l s x) r
def seenL (l : Int) : Int → List Int → Int
  | s, [] => s
  | s, x :: r => seenL l (seeZ l s x) r
theorem playL_len (l : Int) : ∀ (s : Int) (r : List Int), (playL l s r).length = r.length
  | _, [] => rfl
  | s, x :: r => by unfold playL; rw [List.length_cons, List.length_cons, playL_len l _ r]
theorem playL_app (l : Int) : ∀ (s : Int) (a b : List Int), playL l s (a ++ b) = playL l s a ++ playL l (seenL l s a) b
  | _, [], _ => rfl
  | s, x :: a, b => by
    show seeZ l s x :: playL l (seeZ l s x) (a ++ b) = seeZ l s x :: (playL l (seeZ l s x) a ++ playL l (seenL l (seeZ l s x) a) b)
    rw [playL_app l _ a b]
theorem seenL_app (l : Int) : ∀ (s : Int) (a b : List Int), seenL l s (a ++ b) = seenL l (seenL l s a) b
  | _, [], _ => rfl
  | s, x :: a, b => by rw [List.cons_append]; exact seenL_app l _ a b
def farB (x : Int) : Bool := !(decide (x ≥ -999999999) && decide (x ≤ 999999999))
def playE (l s : Int) (r : List Int) : Int := firstZ [if (!(decide (l ≥ 0) && decide (l ≤ 999999999)) || farB s) = true then 3 else 0, if decide ((r.length : Int) > 256) = true then 5 else 0, if r.any farB = true then 3 else 0]
structure PlayJ (l s : Int) (r : List Int) where
  i : Nat
  v : Value
  ob : List (Nat × Obj)
  le : i ≤ r.length
  hr : OwnRow 3 1 v i ((playL l s (r.take i)).map i64c) ob
theorem rwithin_g {w : World} {F : Gs} {x a b : Int} (hF : Fits F w) : GivesVal Tryz.prog 25 [.int .i64 x, .int .i64 a, .int .i64 b] w F (.bool (decide (x ≥ a) && decide (x ≤ b))) := by
  refine CallsG.intro (G := fun F => True) Tryz.func25 rfl (by rfl) rfl rfl hF (fun F' hF' => trivial) ?_
  refine J_seq ?_
  refine J_region ?_
  refine JS_q (q_assign rfl) ?_
  refine JS_nil ?_
  refine F_then ?_
  refine J_seq ?_
  refine J_region ?_
  refine JS_q (q_move rfl) ?_
  refine JS_q (q_move rfl) ?_
  refine JS_q (q_bin rfl rfl rfl) ?_
  refine JS_q (q_move rfl) ?_
  refine JS_split (t := 10) rfl (fun hb10 => ?_) (fun hb10 => ?_)
  ·
    refine JS_g1 rfl rfl ?_
    refine JS_q (q_move rfl) ?_
    refine JS_g1 rfl rfl ?_
    refine JS_q (q_move rfl) ?_
    refine JS_g1 rfl rfl ?_
    refine JS_q (q_bin rfl rfl rfl) ?_
    refine JS_q (q_pickT rfl rfl rfl) ?_
    refine JS_q (q_assign rfl) ?_
    refine JS_nil ?_
    refine F_then ?_
    refine J_ret ?_
    exact F_ret1 (()) rfl (.tmp rfl .nil) (congrArg Value.bool (by rw [hb10]; rfl)) (fun F _ => trivial)
  ·
    refine JS_g0 rfl rfl rfl ?_
    refine JS_g0 rfl rfl rfl ?_
    refine JS_g0 rfl rfl rfl ?_
    refine JS_q (q_pickF rfl rfl rfl) ?_
    refine JS_q (q_assign rfl) ?_
    refine JS_nil ?_
    refine F_then ?_
    refine J_ret ?_
    exact F_ret1 (()) rfl (.tmp rfl .nil) (congrArg Value.bool (by rw [hb10]; rfl)) (fun F _ => trivial)
theorem risCount_g {w : World} {F : Gs} {x : Int} (hF : Fits F w) : GivesVal Tryz.prog 22 [.int .i64 x] w F (.bool (!farB x)) := by
  refine CallsG.intro (G := fun F => True) Tryz.func22 rfl (by rfl) rfl rfl hF (fun F' hF' => trivial) ?_
  refine J_seq ?_
  refine J_region ?_
  refine JS_q (q_assign rfl) ?_
  refine JS_nil ?_
  refine F_then ?_
  refine J_seq ?_
  refine J_region ?_
  refine JS_q (q_move rfl) ?_
  refine JS_call rfl (fun w F hF _ => rwithin_g hF) (fun _ => ?_)
  refine JS_q (q_assign rfl) ?_
  refine JS_nil ?_
  refine F_then ?_
  refine J_ret ?_
  exact F_ret1 (()) rfl (.tmp rfl .nil) (congrArg Value.bool (by unfold farB; rw [Bool.not_not])) (fun F ⟨_, _⟩ => trivial)
theorem rwhen_g {w : World} {F : Gs} {b : Bool} {e : Int} (hF : Fits F w) : GivesVal Tryz.prog 24 [.bool b, .int .i64 e] w F (.int .i64 (if b = true then e else 0)) := by
  refine CallsG.intro (G := fun F => True) Tryz.func24 rfl (by rfl) rfl rfl hF (fun F' hF' => trivial) ?_
  refine J_seq ?_
  refine J_region ?_
  refine JS_q (q_assign rfl) ?_
  refine JS_nil ?_
  refine F_then ?_
  refine J_seq ?_
  refine J_seq ?_
  refine J_region ?_
  refine JS_q (q_move rfl) ?_
  refine JS_nil ?_
  refine F_then ?_
  refine J_cond rfl (fun hc => ?_) (fun hc => ?_)
  ·
    refine J_seq ?_
    refine J_region ?_
    refine JS_q (q_move rfl) ?_
    refine JS_q (q_assign rfl) ?_
    refine JS_nil ?_
    refine F_then ?_
    refine J_ret ?_
    exact F_ret1 (()) rfl (.tmp rfl .nil) (congrArg (Value.int .i64) (by rw [if_pos hc])) (fun F _ => trivial)
  ·
    refine J_skip ?_
    refine F_then ?_
    refine J_seq ?_
    refine J_region ?_
    refine JS_q (q_assign rfl) ?_
    refine JS_nil ?_
    refine F_then ?_
    refine J_ret ?_
    exact F_ret1 (()) rfl (.tmp rfl .nil) (congrArg (Value.int .i64) (by rw [if_neg (by rw [hc]; decide)])) (fun F _ => trivial)
theorem rnfirst_g {w : World} {F : Gs} {q : Option Addr} {n c : Nat} {l : List Int} (hF : Fits F w) (hR : RowR F q n 1 (l.map i64c)) (hn : n ≤ 1000000000) : GivesVal Tryz.prog 23 [.slice q n c] w F (.int .i64 (firstZ l)) := by
  have hln : l.length = n := by have := hR.1; simpa using this
  have hmap : firstZ l = firstZ (l.map id) := by rw [List.map_id]
  refine CallsG.intro (G := fun F => RowR F q n 1 (l.map i64c)) Tryz.func23 rfl (by rfl) rfl rfl hF (fun F' hF' => hR.le hF') ?_
  refine J_seq ?_
  refine J_region ?_
  refine JS_q (q_assign rfl) ?_
  refine JS_nil ?_
  refine F_then ?_
  refine J_seq ?_
  refine J_seq ?_
  refine J_region ?_
  refine JS_q (q_move rfl) ?_
  refine JS_q (q_lenSl rfl sl_118) ?_
  refine JS_q (q_move rfl) ?_
  refine JS_nil ?_
  refine F_then ?_
  refine J_block ?_
  refine J_loopT (ι := ScanI l id) [(5, _), (6, _)] (fun i => [(7, .int .i64 ((i.i : Nat) : Int))]) (fun i => l.length - i.i) (ScanI.start _ _) ⟨rfl, rfl, trivial⟩ ⟨rfl, trivial⟩ (fun i => ?_)
  simp only [List.cons_append, List.nil_append]
  have hi := i.le
  refine J_seq ?_
  refine J_region ?_
  refine JS_q (q_bin rfl rfl rfl) ?_
  refine JS_nil ?_
  refine F_then ?_
  refine J_seq ?_
  refine J_cond rfl (fun hc => ?_) (fun hc => ?_)
  ·
    have hlt : i.i < l.length := by have := of_decide_eq_true hc; omega
    refine J_skip ?_
    refine F_then ?_
    refine J_seq ?_
    refine J_block ?_
    refine J_seq ?_
    refine J_region ?_
    refine JS_q (q_idxQ (n := n) (i.i) (fun F hR => hR) rfl rfl sl_118 ty_24 (by omega)) ?_
    refine JS_q (q_loadQ (n := n) ((i.i) * 1) (fun F hR => hR) (by omega) rfl ty_24 (map_el (f := i64c) (l := l) (by omega))) ?_
    refine JS_q (q_assign rfl) ?_
    refine JS_nil ?_
    refine F_then ?_
    refine J_seq ?_
    refine J_region ?_
    refine JS_q (q_move rfl) ?_
    refine JS_q (q_bin rfl rfl rfl) ?_
    refine JS_nil ?_
    refine F_then ?_
    refine J_cond rfl (fun hc => ?_) (fun hc => ?_)
    ·
      have h12 : id (el l i.i) ≠ 0 := bne_iff_ne.1 hc
      refine J_seq ?_
      refine J_region ?_
      refine JS_q (q_move rfl) ?_
      refine JS_q (q_assign rfl) ?_
      refine JS_nil ?_
      refine F_then ?_
      refine J_ret ?_
      repeat (first | refine F_then_ret ?_ | refine F_block_ret ?_)
      exact F_ret1 (()) rfl (.tmp rfl .nil) (congrArg (Value.int .i64) (hmap ▸ i.hit hlt h12)) (fun F hR => trivial)
    ·
      have h12 : id (el l i.i) = 0 := bne_eq_false_iff_eq.1 hc
      refine J_skip ?_
      refine F_block ?_
      refine F_then ?_
      refine J_region ?_
      refine JS_q (q_add rfl rfl (by omega)) ?_
      refine JS_q (q_move rfl) ?_
      refine JS_nil ?_
      exact F_again (i.next hlt h12) (by show l.length - (i.i + 1) < l.length - i.i; omega) ⟨rfl, rfl, rfl, trivial⟩ (List.Sublist.refl _) (fun F h => h)
  ·
    have hge : l.length ≤ i.i := by have := of_decide_eq_false hc; omega
    refine J_exit ?_
    repeat (first | refine F_then_exit ?_ | refine F_block_miss (by rfl) ?_)
    refine F_block_hit ?_
    refine F_then ?_
    refine J_seq ?_
    refine J_region ?_
    refine JS_q (q_assign rfl) ?_
    refine JS_nil ?_
    refine F_then ?_
    refine J_ret ?_
    exact F_ret1 (()) rfl (.tmp rfl .nil) (congrArg (Value.int .i64) (hmap ▸ i.stop hge)) (fun F hR => trivial)
theorem rsee_g {w : World} {F : Gs} {l s x : Int} (hF : Fits F w) (hl : -1000000000000 ≤ l ∧ l ≤ 1000000000000) (hx : -1000000000000 ≤ x ∧ x ≤ 1000000000000) : GivesVal Tryz.prog 26 [.int .i64 l, .int .i64 s, .int .i64 x] w F (.int .i64 (seeZ l s x)) := by
  refine CallsG.intro (G := fun F => True) Tryz.func26 rfl (by rfl) rfl rfl hF (fun F' hF' => trivial) ?_
  refine J_seq ?_
  refine J_region ?_
  refine JS_q (q_assign rfl) ?_
  refine JS_nil ?_
  refine F_then ?_
  refine J_seq ?_
  refine J_region ?_
  refine JS_q (q_move rfl) ?_
  refine JS_q (q_move rfl) ?_
  refine JS_q (q_move rfl) ?_
  refine JS_q (q_sub rfl rfl (by omega)) ?_
  refine JS_q (q_max (a := s) (b := x - l) rfl rfl) ?_
  refine JS_q (q_move rfl) ?_
  refine JS_q (q_min (a := (if x - l > s then x - l else s)) (b := x) rfl rfl) ?_
  refine JS_q (q_assign rfl) ?_
  refine JS_nil ?_
  refine F_then ?_
  refine J_ret ?_
  exact F_ret1 (()) rfl (.tmp rfl .nil) (rfl) (fun F _ => trivial)
theorem rplay1_g {w : World} {F : Gs} {x : Int} (hF : Fits F w) : GivesVal Tryz.prog 21 [.int .i64 x] w F (.bool (farB x)) := by
  refine CallsG.intro (G := fun F => True) Tryz.func21 rfl (by rfl) rfl rfl hF (fun F' hF' => trivial) ?_
  refine J_seq ?_
  refine J_region ?_
  refine JS_q (q_assign rfl) ?_
  refine JS_nil ?_
  refine F_then ?_
  refine J_seq ?_
  refine J_region ?_
  refine JS_q (q_move rfl) ?_
  refine JS_call rfl (fun w F hF _ => risCount_g hF) (fun _ => ?_)
  refine JS_q (q_not rfl) ?_
  refine JS_q (q_assign rfl) ?_
  refine JS_nil ?_
  refine F_then ?_
  refine J_ret ?_
  exact F_ret1 (()) rfl (.tmp rfl .nil) (congrArg Value.bool (Bool.not_not _).symm) (fun F ⟨_, _⟩ => trivial)
theorem idxI_g {w : World} {F : Gs} {q : Option Addr} {n c f : Nat} {l : List Int} {p : Int → Bool} {c1 c2 : List Value} {G0 : Gs → Prop} (hF : Fits F w) (hg : ∀ F F', Gs.le F F' → G0 F → G0 F') (h0 : G0 F) (hR : RowR F q n 1 (l.map i64c)) (hn : l.length = n) (hb : n ≤ 1000000) (hc : ∀ e ∈ l, ∀ w F, Fits F w → G0 F → GivesVal Tryz.prog f (c1 ++ [.int .i64 e] ++ c2) w F (.bool (p e))) : CallsG Tryz.prog 55 [.slice q n c, .func (.func f) c1.toArray c2.toArray] w F (fun (k : Int) => .int .i64 k) (fun k _ => decide (k ≥ 0) = l.any p) := by
  refine CallsG.intro (G := fun F => G0 F ∧ RowR F q n 1 (l.map i64c)) Tryz.func55 rfl (by rfl) rfl rfl hF (fun F' hF' => ⟨hg F F' hF' h0, hR.le hF'⟩) ?_
  refine J_seq ?_
  refine J_region ?_
  refine JS_q (q_assign rfl) ?_
  refine JS_nil ?_
  refine F_then ?_
  refine J_seq ?_
  refine J_seq ?_
  refine J_region ?_
  refine JS_q (q_move rfl) ?_
  refine JS_q (q_lenSl rfl sl_22) ?_
  refine JS_q (q_move rfl) ?_
  refine JS_nil ?_
  refine F_then ?_
  refine J_block ?_
  refine J_loopT (ι := NonI l p) [(0, _), (1, _), (7, _)] (fun i => [(8, .int .i64 ((i.i : Nat) : Int))]) (fun i => l.length - i.i) (NonI.start _ _) ⟨rfl, rfl, rfl, trivial⟩ ⟨rfl, trivial⟩ (fun i => ?_)
  simp only [List.cons_append, List.nil_append]
  have hi := i.le
  refine J_seq ?_
  refine J_region ?_
  refine JS_q (q_bin rfl rfl rfl) ?_
  refine JS_nil ?_
  refine F_then ?_
  refine J_seq ?_
  refine J_cond rfl (fun hc2 => ?_) (fun hc2 => ?_)
  ·
    have hlt : i.i < l.length := by have := of_decide_eq_true hc2; omega
    have hem := el_mem hlt
    refine J_skip ?_
    refine F_then ?_
    refine J_seq ?_
    refine J_block ?_
    refine J_seq ?_
    refine J_region ?_
    refine JS_q (q_move rfl) ?_
    refine JS_q (q_assign rfl) ?_
    refine JS_nil ?_
    refine F_then ?_
    refine J_seq ?_
    refine J_region ?_
    refine JS_q (q_move rfl) ?_
    refine JS_q (q_move rfl) ?_
    refine JS_q (q_move rfl) ?_
    refine JS_q (q_idxQ (n := n) (i.i) (fun F ⟨hG0, hR⟩ => hR) rfl rfl sl_22 ty_3 (by omega)) ?_
    refine JS_q (q_loadQ (n := n) ((i.i) * 1) (fun F ⟨hG0, hR⟩ => hR) (by omega) rfl ty_3 (map_el (f := i64c) (l := l) (by omega))) ?_
    refine JS_callV (c1 := c1) (c2 := c2) rfl rfl (fun w F hF ⟨hG0, hR⟩ => hc _ hem w F hF hG0) (fun _ => ?_)
    refine JS_nil ?_
    refine F_then ?_
    refine J_cond rfl (fun hc2 => ?_) (fun hc2 => ?_)
    ·
      have hc16 := hc2
      refine J_seq ?_
      refine J_region ?_
      refine JS_q (q_move rfl) ?_
      refine JS_q (q_assign rfl) ?_
      refine JS_nil ?_
      refine F_then ?_
      refine J_ret ?_
      repeat (first | refine F_then_ret ?_ | refine F_block_ret ?_)
      exact F_ret1 (((i.i : Nat) : Int)) rfl (.tmp rfl .nil) (rfl) (fun F _ => by rw [decide_eq_true (by omega), List.any_eq_true.2 ⟨_, hem, hc16⟩])
    ·
      have hc16 := hc2
      refine J_skip ?_
      refine F_block ?_
      refine F_then ?_
      refine J_region ?_
      refine JS_q (q_add rfl rfl (by omega)) ?_
      refine JS_q (q_move rfl) ?_
      refine JS_nil ?_
      exact F_again (i.next hlt hc16) (by show l.length - (i.i + 1) < l.length - i.i; omega) ⟨rfl, rfl, rfl, rfl, trivial⟩ (List.Sublist.refl _) (fun F h => h.1)
  ·
    have hge : l.length ≤ i.i := by have := of_decide_eq_false hc2; omega
    refine J_exit ?_
    repeat (first | refine F_then_exit ?_ | refine F_block_miss (by rfl) ?_)
    refine F_block_hit ?_
    refine F_then ?_
    refine J_seq ?_
    refine J_region ?_
    refine JS_q (q_assign rfl) ?_
    refine JS_nil ?_
    refine F_then ?_
    refine J_ret ?_
    exact F_ret1 ((-1 : Int)) rfl (.tmp rfl .nil) (rfl) (fun F _ => by rw [Bool.eq_false_iff.2 (i.stop hge)]; rfl)
theorem contI_g {w : World} {F : Gs} {q : Option Addr} {n c f : Nat} {l : List Int} {p : Int → Bool} {c1 c2 : List Value} {G0 : Gs → Prop} (hF : Fits F w) (hg : ∀ F F', Gs.le F F' → G0 F → G0 F') (h0 : G0 F) (hR : RowR F q n 1 (l.map i64c)) (hn : l.length = n) (hb : n ≤ 1000000) (hc : ∀ e ∈ l, ∀ w F, Fits F w → G0 F → GivesVal Tryz.prog f (c1 ++ [.int .i64 e] ++ c2) w F (.bool (p e))) : GivesVal Tryz.prog 20 [.slice q n c, .func (.func f) c1.toArray c2.toArray] w F (.bool (l.any p)) := by
  refine CallsG.intro (G := fun F => G0 F ∧ RowR F q n 1 (l.map i64c)) Tryz.func20 rfl (by rfl) rfl rfl hF (fun F' hF' => ⟨hg F F' hF' h0, hR.le hF'⟩) ?_
  refine J_seq ?_
  refine J_region ?_
  refine JS_q (q_assign rfl) ?_
  refine JS_nil ?_
  refine F_then ?_
  refine J_seq ?_
  refine J_region ?_
  refine JS_q (q_move rfl) ?_
  refine JS_q (q_move rfl) ?_
  refine JS_call rfl (fun w F hF ⟨hG0, hR⟩ => idxI_g (p := p) hF hg hG0 hR hn hb hc) (fun c7 => ?_)
  refine JS_pure _ (fun w F hF h => h.2) (fun h7 => ?_)
  refine JS_q (q_bin rfl rfl rfl) ?_
  refine JS_q (q_assign rfl) ?_
  refine JS_nil ?_
  refine F_then ?_
  refine J_ret ?_
  exact F_ret1 (()) rfl (.tmp rfl .nil) (congrArg Value.bool h7.symm) (fun F ⟨⟨hG0, hR⟩, _⟩ => trivial)
theorem rwhenE_g {w : World} {F : Gs} {b b' : Bool} {e : Int} (hF : Fits F w) (hb : b = b') : GivesVal Tryz.prog 24 [.bool b, .int .i64 e] w F (.int .i64 (if b' = true then e else 0)) := by
  subst hb; exact rwhen_g hF
theorem seenL_snoc {l s : Int} {r : List Int} {i : Nat} (h : i < r.length) : seenL l s (r.take (i + 1)) = seeZ l (seenL l s (r.take i)) (el r i) := by
  rw [take_el h, seenL_app]; rfl
theorem playL_snoc {l s : Int} {r : List Int} {i : Nat} (h : i < r.length) : playL l s (r.take (i + 1)) = playL l s (r.take i) ++ [seeZ l (seenL l s (r.take i)) (el r i)] := by
  rw [take_el h, playL_app]; rfl
theorem far_in {x : Int} (h : farB x = false) : -999999999 ≤ x ∧ x ≤ 999999999 := by
  unfold farB at h
  rw [Bool.not_eq_false', Bool.and_eq_true] at h
  exact ⟨of_decide_eq_true h.1, of_decide_eq_true h.2⟩
theorem playE_ok {l s : Int} {r : List Int} (h : playE l s r = 0) : (0 ≤ l ∧ l ≤ 999999999) ∧ (-999999999 ≤ s ∧ s ≤ 999999999) ∧ r.length ≤ 256 ∧ ∀ x ∈ r, -999999999 ≤ x ∧ x ≤ 999999999 := by
  have h := firstZ_all h
  have h1 := h _ (List.mem_cons_self ..)
  have h2 := h _ (List.mem_cons_of_mem _ (List.mem_cons_self ..))
  have h3 := h _ (List.mem_cons_of_mem _ (List.mem_cons_of_mem _ (List.mem_cons_self ..)))
  replace h1 : (!(decide (l ≥ 0) && decide (l ≤ 999999999)) || farB s) = false := by
    cases hb : (!(decide (l ≥ 0) && decide (l ≤ 999999999)) || farB s) with
    | false => rfl
    | true => rw [hb] at h1; exact absurd h1 (by decide)
  replace h3 : r.any farB = false := by
    cases hb : r.any farB with
    | false => rfl
    | true => rw [hb] at h3; exact absurd h3 (by decide)
  rw [Bool.or_eq_false_iff, Bool.not_eq_false', Bool.and_eq_true] at h1
  refine ⟨⟨of_decide_eq_true h1.1.1, of_decide_eq_true h1.1.2⟩, far_in h1.2, ?_, fun x hx => far_in (Bool.eq_false_iff.2 (List.any_eq_false.1 h3 x hx))⟩
  cases hd : decide ((r.length : Int) > 256) with
  | false => have := of_decide_eq_false hd; omega
  | true => rw [hd] at h2; exact absurd h2 (by decide)
theorem rplay_g {w : World} {F : Gs} {l s : Int} {q : Option Addr} {n c : Nat} {r : List Int} (hF : Fits F w) (hR : RowR F q n 1 (r.map i64c)) (hn : r.length = n) (hb : n ≤ 1000000) :
    CallsG Tryz.prog 6 [.int .i64 l, .int .i64 s, .slice q n c] w F (fun (c : Sr) => .tuple #[c.v, .int .i64 (playE l s r)]) (fun c F => RowD F c (if playE l s r = 0 then playL l s r else [])) := by
  refine CallsG.intro (G := fun F => RowR F q n 1 (r.map i64c)) Tryz.func6 rfl (by rfl) rfl rfl hF (fun F' hF' => hR.le hF') ?_
  refine J_seq ?_
  refine J_region ?_
  refine JS_q (q_assign rfl) ?_
  refine JS_q (q_assign rfl) ?_
  refine JS_nil ?_
  refine F_then ?_
  refine J_seq ?_
  refine J_region ?_
  refine JS_q (q_move rfl) ?_
  refine JS_call rfl (fun w F hF hR => contI_g (f := 21) (c1 := []) (c2 := []) (p := farB) (G0 := fun _ => True) hF (fun _ _ _ _ => trivial) trivial hR hn hb (fun e he w F hF _ => rplay1_g hF)) (fun _ => ?_)
  refine JS_q (q_assign rfl) ?_
  refine JS_nil ?_
  refine F_then ?_
  refine J_seq ?_
  refine J_seq ?_
  refine J_region ?_
  refine JS_q (q_move rfl) ?_
  refine JS_call rfl (fun w F hF ⟨hR, _⟩ => rwithin_g hF) (fun _ => ?_)
  refine JS_q (q_not rfl) ?_
  refine JS_q (q_move rfl) ?_
  refine JS_split (t := 18) rfl (fun hb18 => ?_) (fun hb18 => ?_)
  ·
    refine JS_g0 rfl rfl rfl ?_
    refine JS_g0 rfl rfl rfl ?_
    refine JS_g0 rfl rfl rfl ?_
    refine JS_q (q_pickT rfl rfl rfl) ?_
    refine JS_call rfl (fun w F hF ⟨⟨hR, _⟩, _⟩ => rwhenE_g (b' := (!(decide (l ≥ 0) && decide (l ≤ 999999999)) || farB s)) hF (by rw [hb18]; simp)) (fun _ => ?_)
    refine JS_q (q_move rfl) ?_
    refine JS_q (q_lenSl rfl sl_22) ?_
    refine JS_q (q_bin rfl rfl rfl) ?_
    refine JS_call rfl (fun w F hF ⟨⟨⟨hR, _⟩, _⟩, _⟩ => rwhenE_g (b' := decide ((r.length : Int) > 256)) hF (by rw [hn])) (fun _ => ?_)
    refine JS_q (q_move rfl) ?_
    refine JS_call rfl (fun w F hF ⟨⟨⟨⟨hR, _⟩, _⟩, _⟩, _⟩ => rwhen_g hF) (fun _ => ?_)
    refine JS_buildSliceF rfl (slB_u sl_118) ty_24 z_24 rfl rfl (fun b30 => ?_)
    refine JS_call rfl (fun w F hF ⟨⟨⟨⟨⟨⟨hR, _⟩, _⟩, _⟩, _⟩, _⟩, hs30⟩ => rnfirst_g (l := [if (!(decide (l ≥ 0) && decide (l ≤ 999999999)) || farB s) = true then 3 else 0, if decide ((r.length : Int) > 256) = true then 5 else 0, if r.any farB = true then 3 else 0]) hF (RowR.of hs30 rfl) (by decide)) (fun _ => ?_)
    refine JS_q (q_assign rfl) ?_
    refine JS_nil ?_
    refine F_then ?_
    refine J_seq ?_
    refine J_region ?_
    refine JS_q (q_move rfl) ?_
    refine JS_q (q_bin rfl rfl rfl) ?_
    refine JS_nil ?_
    refine F_then ?_
    refine J_cond rfl (fun hc => ?_) (fun hc => ?_)
    ·
      have he : playE l s r ≠ 0 := bne_iff_ne.1 hc
      refine J_seq ?_
      refine J_region ?_
      refine JS_q (q_move rfl) ?_
      refine JS_q (q_assign rfl) ?_
      refine JS_q (q_assign rfl) ?_
      refine JS_nil ?_
      refine F_then ?_
      refine J_ret ?_
      exact F_retN ((⟨none, 0, 0⟩)) rfl (.tmp rfl (.tmp rfl .nil)) (rfl) (fun F _ => by rw [if_neg he]; exact ⟨RowR.nil F none 1, rfl, Nat.le_refl _⟩)
    ·
      have he : playE l s r = 0 := bne_eq_false_iff_eq.1 hc
      obtain ⟨kl, ks, kn, kx⟩ := playE_ok he
      refine J_skip ?_
      refine F_then ?_
      refine J_seq ?_
      refine J_region ?_
      refine JS_q (q_assign rfl) ?_
      refine JS_nil ?_
      refine F_then ?_
      refine J_seq ?_
      refine J_seq ?_
      refine J_region ?_
      refine JS_q (q_move rfl) ?_
      refine JS_q (q_lenSl rfl sl_22) ?_
      refine JS_q (q_move rfl) ?_
      refine JS_nil ?_
      refine F_then ?_
      refine J_block ?_
      refine J_loopS (ι := PlayJ l s r) [(0, _), (35, _), (36, _)] (fun i => [(1, .int .i64 (seenL l s (r.take i.i))), (10, i.v), (37, .int .i64 ((i.i : Nat) : Int))]) (fun i => i.ob) (fun i F => True) (fun i => r.length - i.i) (⟨0, _, [], Nat.zero_le _, .nil⟩) ⟨rfl, rfl, rfl, trivial⟩ ⟨rfl, rfl, rfl, trivial⟩ (List.Sublist.refl _) (fun _ _ => trivial) (fun i => ?_)
      simp only [List.cons_append, List.nil_append]
      have hi := i.le
      refine J_seq ?_
      refine J_region ?_
      refine JS_q (q_bin rfl rfl rfl) ?_
      refine JS_nil ?_
      refine F_then ?_
      refine J_seq ?_
      refine J_cond rfl (fun hc => ?_) (fun hc => ?_)
      ·
        have hlt : i.i < r.length := by have := of_decide_eq_true hc; omega
        have hx := kx _ (el_mem hlt)
        refine J_skip ?_
        refine F_then ?_
        refine J_seq ?_
        refine J_block ?_
        refine J_seq ?_
        refine J_region ?_
        refine JS_q (q_idxQ (n := n) (i.i) (fun F ⟨⟨⟨⟨⟨⟨⟨⟨hR, _⟩, _⟩, _⟩, _⟩, _⟩, hs30⟩, _⟩, _⟩ => hR) rfl rfl sl_22 ty_3 (by omega)) ?_
        refine JS_q (q_loadQ (n := n) ((i.i) * 1) (fun F ⟨⟨⟨⟨⟨⟨⟨⟨hR, _⟩, _⟩, _⟩, _⟩, _⟩, hs30⟩, _⟩, _⟩ => hR) (by omega) rfl ty_3 (map_el (f := i64c) (l := r) (by omega))) ?_
        refine JS_q (q_assign rfl) ?_
        refine JS_nil ?_
        refine F_then ?_
        refine J_seq ?_
        refine J_region ?_
        refine JS_q (q_move rfl) ?_
        refine JS_q (q_move rfl) ?_
        refine JS_q (q_move rfl) ?_
        refine JS_call rfl (fun w F hF ⟨⟨⟨⟨⟨⟨⟨⟨hR, _⟩, _⟩, _⟩, _⟩, _⟩, hs30⟩, _⟩, _⟩ => rsee_g hF (by omega) (by omega)) (fun _ => ?_)
        refine JS_q (q_assign rfl) ?_
        refine JS_nil ?_
        refine F_then ?_
        refine J_region ?_
        refine JS_q (q_move rfl) ?_
        refine JS_q (q_move rfl) ?_
        refine JS_buildSliceF rfl (slB_u sl_22) ty_3 z_3 rfl rfl (fun b47 => ?_)
        refine JS_app (bs1 := []) (ob := i.ob) (k := 1) (sz := 1) (news := [.int .i64 ((seeZ l (seenL l s (r.take i.i)) (el r i.i)))]) rfl rfl sl_22 ty_3 z_3 rfl by_3 i.hr (Src.row (off := 0) (fun F ⟨⟨⟨⟨⟨⟨⟨⟨⟨⟨hR, _⟩, _⟩, _⟩, _⟩, _⟩, hs30⟩, _⟩, _⟩, _⟩, hs47⟩ => hs47) (fun j v hv => by rw [Nat.zero_add]; show ([.int .i64 ((seeZ l (seenL l s (r.take i.i)) (el r i.i)))].toArray)[j]? = some v; rw [List.getElem?_toArray]; exact hv) rfl) (by omega) (by omega) (oneAll_mem ⟨rfl, trivial⟩) (fun v48 ob48 hr48 => ?_)
        refine JS_q (q_assign rfl) ?_
        refine JS_nil ?_
        refine F_block ?_
        refine F_then ?_
        refine J_region ?_
        refine JS_q (q_add rfl rfl (by omega)) ?_
        refine JS_q (q_move rfl) ?_
        refine JS_nil ?_
        exact F_again (⟨i.i + 1, v48, ob48, hlt, by rw [playL_snoc hlt, List.map_append]; exact hr48⟩) (by show r.length - (i.i + 1) < r.length - i.i; omega) ⟨rfl, rfl, rfl, (congrArg (fun z : Int => some (Value.int .i64 z)) (seenL_snoc hlt).symm), rfl, rfl, trivial⟩ (List.Sublist.refl _) (fun F h => ⟨h.1.1.1, trivial⟩)
      ·
        have hge : i.i = r.length := by have := of_decide_eq_false hc; omega
        refine J_exit ?_
        repeat (first | refine F_then_exit ?_ | refine F_block_miss (by rfl) ?_)
        refine F_block_hit ?_
        refine F_then ?_
        refine J_seq ?_
        refine J_region ?_
        obtain ⟨rr, hv, hrn, hrc, hfix⟩ := OwnRow.fix (w0 := w) (F0 := F) (bs1 := []) (G := _) i.hr
        refine JS_fix hfix ?_
        rw [hv]
        refine JS_q (q_move rfl) ?_
        refine JS_q (q_assign rfl) ?_
        refine JS_q (q_assign rfl) ?_
        refine JS_nil ?_
        refine F_then ?_
        refine J_ret ?_
        exact F_retN (rr) rfl (.tmp rfl (.tmp rfl .nil)) (by rw [he]) (fun F ⟨⟨⟨⟨⟨⟨⟨⟨⟨hR, _⟩, _⟩, _⟩, _⟩, _⟩, hs30⟩, _⟩, _⟩, hrow⟩ => by rw [if_pos he]; rw [List.take_of_length_le (by omega)] at hrow; exact ⟨by rw [hrn]; exact hrow, by rw [playL_len, hrn, hge], by rw [hrn]; exact hrc⟩)
  ·
    refine JS_g1 rfl rfl ?_
    refine JS_q (q_move rfl) ?_
    refine JS_g1 rfl rfl ?_
    refine JS_call rfl (fun w F hF ⟨⟨hR, _⟩, _⟩ => risCount_g hF) (fun _ => ?_)
    refine JS_g1 rfl rfl ?_
    refine JS_q (q_not rfl) ?_
    refine JS_q (q_pickF rfl rfl rfl) ?_
    refine JS_call rfl (fun w F hF ⟨⟨⟨hR, _⟩, _⟩, _⟩ => rwhenE_g (b' := (!(decide (l ≥ 0) && decide (l ≤ 999999999)) || farB s)) hF (by rw [hb18]; simp)) (fun _ => ?_)
    refine JS_q (q_move rfl) ?_
    refine JS_q (q_lenSl rfl sl_22) ?_
    refine JS_q (q_bin rfl rfl rfl) ?_
    refine JS_call rfl (fun w F hF ⟨⟨⟨⟨hR, _⟩, _⟩, _⟩, _⟩ => rwhenE_g (b' := decide ((r.length : Int) > 256)) hF (by rw [hn])) (fun _ => ?_)
    refine JS_q (q_move rfl) ?_
    refine JS_call rfl (fun w F hF ⟨⟨⟨⟨⟨hR, _⟩, _⟩, _⟩, _⟩, _⟩ => rwhen_g hF) (fun _ => ?_)
    refine JS_buildSliceF rfl (slB_u sl_118) ty_24 z_24 rfl rfl (fun b30 => ?_)
    refine JS_call rfl (fun w F hF ⟨⟨⟨⟨⟨⟨⟨hR, _⟩, _⟩, _⟩, _⟩, _⟩, _⟩, hs30⟩ => rnfirst_g (l := [if (!(decide (l ≥ 0) && decide (l ≤ 999999999)) || farB s) = true then 3 else 0, if decide ((r.length : Int) > 256) = true then 5 else 0, if r.any farB = true then 3 else 0]) hF (RowR.of hs30 rfl) (by decide)) (fun _ => ?_)
    refine JS_q (q_assign rfl) ?_
    refine JS_nil ?_
    refine F_then ?_
    refine J_seq ?_
    refine J_region ?_
    refine JS_q (q_move rfl) ?_
    refine JS_q (q_bin rfl rfl rfl) ?_
    refine JS_nil ?_
    refine F_then ?_
    refine J_cond rfl (fun hc => ?_) (fun hc => ?_)
    ·
      have he : playE l s r ≠ 0 := bne_iff_ne.1 hc
      refine J_seq ?_
      refine J_region ?_
      refine JS_q (q_move rfl) ?_
      refine JS_q (q_assign rfl) ?_
      refine JS_q (q_assign rfl) ?_
      refine JS_nil ?_
      refine F_then ?_
      refine J_ret ?_
      exact F_retN ((⟨none, 0, 0⟩)) rfl (.tmp rfl (.tmp rfl .nil)) (rfl) (fun F _ => by rw [if_neg he]; exact ⟨RowR.nil F none 1, rfl, Nat.le_refl _⟩)
    ·
      have he : playE l s r = 0 := bne_eq_false_iff_eq.1 hc
      obtain ⟨kl, ks, kn, kx⟩ := playE_ok he
      refine J_skip ?_
      refine F_then ?_
      refine J_seq ?_
      refine J_region ?_
      refine JS_q (q_assign rfl) ?_
      refine JS_nil ?_
      refine F_then ?_
      refine J_seq ?_
      refine J_seq ?_
      refine J_region ?_
      refine JS_q (q_move rfl) ?_
      refine JS_q (q_lenSl rfl sl_22) ?_
      refine JS_q (q_move rfl) ?_
      refine JS_nil ?_
      refine F_then ?_
      refine J_block ?_
      refine J_loopS (ι := PlayJ l s r) [(0, _), (35, _), (36, _)] (fun i => [(1, .int .i64 (seenL l s (r.take i.i))), (10, i.v), (37, .int .i64 ((i.i : Nat) : Int))]) (fun i => i.ob) (fun i F => True) (fun i => r.length - i.i) (⟨0, _, [], Nat.zero_le _, .nil⟩) ⟨rfl, rfl, rfl, trivial⟩ ⟨rfl, rfl, rfl, trivial⟩ (List.Sublist.refl _) (fun _ _ => trivial) (fun i => ?_)
      simp only [List.cons_append, List.nil_append]
      have hi := i.le
      refine J_seq ?_
      refine J_region ?_
      refine JS_q (q_bin rfl rfl rfl) ?_
      refine JS_nil ?_
      refine F_then ?_
      refine J_seq ?_
      refine J_cond rfl (fun hc => ?_) (fun hc => ?_)
      ·
        have hlt : i.i < r.length := by have := of_decide_eq_true hc; omega
        have hx := kx _ (el_mem hlt)
        refine J_skip ?_
        refine F_then ?_
        refine J_seq ?_
        refine J_block ?_
        refine J_seq ?_
        refine J_region ?_
        refine JS_q (q_idxQ (n := n) (i.i) (fun F ⟨⟨⟨⟨⟨⟨⟨⟨⟨hR, _⟩, _⟩, _⟩, _⟩, _⟩, _⟩, hs30⟩, _⟩, _⟩ => hR) rfl rfl sl_22 ty_3 (by omega)) ?_
        refine JS_q (q_loadQ (n := n) ((i.i) * 1) (fun F ⟨⟨⟨⟨⟨⟨⟨⟨⟨hR, _⟩, _⟩, _⟩, _⟩, _⟩, _⟩, hs30⟩, _⟩, _⟩ => hR) (by omega) rfl ty_3 (map_el (f := i64c) (l := r) (by omega))) ?_
        refine JS_q (q_assign rfl) ?_
        refine JS_nil ?_
        refine F_then ?_
        refine J_seq ?_
        refine J_region ?_
        refine JS_q (q_move rfl) ?_
        refine JS_q (q_move rfl) ?_
        refine JS_q (q_move rfl) ?_
        refine JS_call rfl (fun w F hF ⟨⟨⟨⟨⟨⟨⟨⟨⟨hR, _⟩, _⟩, _⟩, _⟩, _⟩, _⟩, hs30⟩, _⟩, _⟩ => rsee_g hF (by omega) (by omega)) (fun _ => ?_)
        refine JS_q (q_assign rfl) ?_
        refine JS_nil ?_
        refine F_then ?_
        refine J_region ?_
        refine JS_q (q_move rfl) ?_
        refine JS_q (q_move rfl) ?_
        refine JS_buildSliceF rfl (slB_u sl_22) ty_3 z_3 rfl rfl (fun b47 => ?_)
        refine JS_app (bs1 := []) (ob := i.ob) (k := 1) (sz := 1) (news := [.int .i64 ((seeZ l (seenL l s (r.take i.i)) (el r i.i)))]) rfl rfl sl_22 ty_3 z_3 rfl by_3 i.hr (Src.row (off := 0) (fun F ⟨⟨⟨⟨⟨⟨⟨⟨⟨⟨⟨hR, _⟩, _⟩, _⟩, _⟩, _⟩, _⟩, hs30⟩, _⟩, _⟩, _⟩, hs47⟩ => hs47) (fun j v hv => by rw [Nat.zero_add]; show ([.int .i64 ((seeZ l (seenL l s (r.take i.i)) (el r i.i)))].toArray)[j]? = some v; rw [List.getElem?_toArray]; exact hv) rfl) (by omega) (by omega) (oneAll_mem ⟨rfl, trivial⟩) (fun v48 ob48 hr48 => ?_)
        refine JS_q (q_assign rfl) ?_
        refine JS_nil ?_
        refine F_block ?_
        refine F_then ?_
        refine J_region ?_
        refine JS_q (q_add rfl rfl (by omega)) ?_
        refine JS_q (q_move rfl) ?_
        refine JS_nil ?_
        exact F_again (⟨i.i + 1, v48, ob48, hlt, by rw [playL_snoc hlt, List.map_append]; exact hr48⟩) (by show r.length - (i.i + 1) < r.length - i.i; omega) ⟨rfl, rfl, rfl, (congrArg (fun z : Int => some (Value.int .i64 z)) (seenL_snoc hlt).symm), rfl, rfl, trivial⟩ (List.Sublist.refl _) (fun F h => ⟨h.1.1.1, trivial⟩)
      ·
        have hge : i.i = r.length := by have := of_decide_eq_false hc; omega
        refine J_exit ?_
        repeat (first | refine F_then_exit ?_ | refine F_block_miss (by rfl) ?_)
        refine F_block_hit ?_
        refine F_then ?_
        refine J_seq ?_
        refine J_region ?_
        obtain ⟨rr, hv, hrn, hrc, hfix⟩ := OwnRow.fix (w0 := w) (F0 := F) (bs1 := []) (G := _) i.hr
        refine JS_fix hfix ?_
        rw [hv]
        refine JS_q (q_move rfl) ?_
        refine JS_q (q_assign rfl) ?_
        refine JS_q (q_assign rfl) ?_
        refine JS_nil ?_
        refine F_then ?_
        refine J_ret ?_
        exact F_retN (rr) rfl (.tmp rfl (.tmp rfl .nil)) (by rw [he]) (fun F ⟨⟨⟨⟨⟨⟨⟨⟨⟨⟨hR, _⟩, _⟩, _⟩, _⟩, _⟩, _⟩, hs30⟩, _⟩, _⟩, hrow⟩ => by rw [if_pos he]; rw [List.take_of_length_le (by omega)] at hrow; exact ⟨by rw [hrn]; exact hrow, by rw [playL_len, hrn, hge], by rw [hrn]; exact hrc⟩)
end Go.Proofs.YtfdgciidfohhgaaGreatDoor
