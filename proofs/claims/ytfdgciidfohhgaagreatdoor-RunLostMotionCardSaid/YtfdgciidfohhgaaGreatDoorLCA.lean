/-
  What awake computes, and the law walked.
-/
import Derived.Test.YtfdgciidfohhgaaGreatDoorE14
import Derived.Test.YtfdgciidfohhgaaGreatDoorP0CA
set_option linter.all false
namespace Go.Proofs.YtfdgciidfohhgaaGreatDoor
open Go.RowKit Ig
theorem powZ_eq : (Lib.pow10Tab.map fun z => Value.int .u64 z) = Ev.powZ.map fun z => Value.int .u64 z := by unfold Lib.pow10Tab Ev.powZ; rfl
theorem awake9_g {w : World} {F : Gs} (hF : Fits F w) (hGl : Glob F) : GivesVal Tryz.prog 5 [] w F (.bool true) := by
  obtain ⟨_, T, h2⟩ := hGl
  obtain ⟨fr, e⟩ := hF.row _ _ _ h2
  rw [powZ_eq] at e
  obtain ⟨r, h3, h4⟩ := Ev.awake_ca
  exact .of (enters_of Tryz.func5 (by kernel_rfl) (by kernel_rfl)) hF (Ev.start_calls (by kernel_rfl) (by decide) h3 h4 e)
end Go.Proofs.YtfdgciidfohhgaaGreatDoor

namespace Go.Proofs.YtfdgciidfohhgaaGreatDoor
open Go.RowKit Ig
def rbB (l s : Int) : Bool := (((decide (l < 0) || decide (l > 999999999)) || decide (s < -999999999)) || decide (s > 999999999))
def w0Z (l s : Int) (n : Nat) : Int := if rbB l s = true then 3 else if decide ((n : Int) > 256) = true then 5 else 0
theorem rb_eq (l s : Int) : (!(decide (l ≥ 0) && decide (l ≤ 999999999)) || farB s) = rbB l s := by
  unfold farB rbB
  rw [Bool.eq_iff_iff]
  simp only [Bool.or_eq_true, Bool.not_eq_true', Bool.and_eq_false_iff, decide_eq_true_eq, decide_eq_false_iff_not]
  omega
theorem playE_eq (l s : Int) (r : List Int) : playE l s r = if w0Z l s r.length ≠ 0 then w0Z l s r.length else if r.any farB = true then 3 else 0 := by
  unfold playE w0Z
  rw [rb_eq]
  cases rbB l s <;> cases decide ((r.length : Int) > 256) <;> cases r.any farB <;> rfl
end Go.Proofs.YtfdgciidfohhgaaGreatDoor

namespace Go.Proofs.YtfdgciidfohhgaaGreatDoor
open Go.RowKit Ig
def i8c (x : Int) : Value := .int .i8 x
def sumsL : Int → List Int → List Int
  | _, [] => []
  | s, x :: r => (s + x) :: sumsL (s + x) r
def totL : Int → List Int → Int
  | s, [] => s
  | s, x :: r => totL (s + x) r
theorem sumsL_len : ∀ (s : Int) (r : List Int), (sumsL s r).length = r.length
  | _, [] => rfl
  | s, x :: r => by unfold sumsL; rw [List.length_cons, List.length_cons, sumsL_len]
theorem totL_app : ∀ (s : Int) (a b : List Int), totL s (a ++ b) = totL (totL s a) b
  | _, [], _ => rfl
  | s, x :: a, b => by rw [List.cons_append]; exact totL_app _ a b
theorem sumsL_app : ∀ (s : Int) (a b : List Int), sumsL s (a ++ b) = sumsL s a ++ sumsL (totL s a) b
  | _, [], _ => rfl
  | s, x :: a, b => by
    show (s + x) :: sumsL (s + x) (a ++ b) = (s + x) :: (sumsL (s + x) a ++ sumsL (totL (s + x) a) b)
    rw [sumsL_app _ a b]
theorem totL_snoc {r : List Int} {i : Nat} (h : i < r.length) : totL 0 (r.take (i + 1)) = totL 0 (r.take i) + el r i := by rw [take_el h, totL_app]; rfl
theorem sumsL_snoc {r : List Int} {i : Nat} (h : i < r.length) : sumsL 0 (r.take (i + 1)) = sumsL 0 (r.take i) ++ [totL 0 (r.take i) + el r i] := by rw [take_el h, sumsL_app]; rfl
theorem totL_le : ∀ {s : Int} {r : List Int}, (∀ x ∈ r, -128 ≤ x ∧ x ≤ 127) → s - 128 * r.length ≤ totL s r ∧ totL s r ≤ s + 128 * r.length
  | s, [], _ => by unfold totL; simp
  | s, x :: r, h => by
    have h1 := totL_le (s := s + x) (r := r) (fun y hy => h y (by simp [hy]))
    have h2 := h x (by simp)
    unfold totL
    rw [List.length_cons]; omega
theorem sumsL_le : ∀ {s : Int} {r : List Int}, (∀ x ∈ r, -128 ≤ x ∧ x ≤ 127) → ∀ y ∈ sumsL s r, s - 128 * r.length ≤ y ∧ y ≤ s + 128 * r.length
  | s, [], _, y, hy => by cases hy
  | s, x :: r, h, y, hy => by
    have h2 := h x (by simp)
    unfold sumsL at hy
    rw [List.length_cons]
    rcases List.mem_cons.1 hy with rfl | hy
    · omega
    · have := sumsL_le (s := s + x) (r := r) (fun y hy => h y (by simp [hy])) y hy
      omega
def seenP : Int → List Int → Int
  | s, [] => s
  | _, x :: r => seenP x r
theorem seenP_app : ∀ (s : Int) (a b : List Int), seenP s (a ++ b) = seenP (seenP s a) b
  | _, [], _ => rfl
  | s, x :: a, b => by rw [List.cons_append]; exact seenP_app _ a b
theorem play_el {l s : Int} {r : List Int} {i : Nat} (h : i < r.length) : el (playL l s r) i = seeZ l (seenL l s (r.take i)) (el r i) := by
  have h1 := playL_snoc (l := l) (s := s) h
  have h2 : playL l s r = playL l s (r.take (i + 1)) ++ playL l (seenL l s (r.take (i + 1))) (r.drop (i + 1)) := by rw [← playL_app, List.take_append_drop]
  have hl : (playL l s (r.take i)).length = i := by rw [playL_len, List.length_take]; omega
  have h3 : (playL l s r)[i]? = some (seeZ l (seenL l s (r.take i)) (el r i)) := by
    rw [h2, h1, List.append_assoc, List.getElem?_append_right (by omega), hl, Nat.sub_self]; rfl
  have hlt : i < (playL l s r).length := by rw [playL_len]; exact h
  rw [el_lt hlt, ← Option.some.injEq, ← List.getElem?_eq_getElem hlt]; exact h3
theorem rplay0_g {w : World} {F : Gs} {l s : Int} {q : Option Addr} {n c : Nat} {r : List Int} (hF : Fits F w) (hR : RowR F q n 1 (r.map i64c)) (hn : r.length = n) (hb : n ≤ 1000000) (h : playE l s r = 0) :
    CallsG Tryz.prog 6 [.int .i64 l, .int .i64 s, .slice q n c] w F (fun (c : Sr) => .tuple #[c.v, .int .i64 0]) (fun c F => RowD F c (playL l s r)) := by
  have := rplay_g (l := l) (s := s) (c := c) hF hR hn hb
  simpa only [h, if_pos] using this
theorem playE_zero {l : Int} {r : List Int} (hl : 0 ≤ l ∧ l ≤ 999999999) (hn : r.length ≤ 256) (h : ∀ x ∈ r, -999999999 ≤ x ∧ x ≤ 999999999) : playE l 0 r = 0 := by
  have e1 : w0Z l 0 r.length = 0 := by
    unfold w0Z rbB
    have : ¬ l < 0 := by omega
    have : ¬ l > 999999999 := by omega
    have : ¬ ((r.length : Int) > 256) := by omega
    simp [*]
  have e2 : r.any farB = false := by
    refine List.any_eq_false.2 fun x hx => ?_
    have := h x hx
    unfold farB
    simp [this.1, this.2]
  rw [playE_eq, if_neg (by rw [e1]; decide), if_neg (by rw [e2]; decide)]
structure LmJ (r : List Int) where
  i : Nat
  v : Value
  ob : List (Nat × Obj)
  le : i ≤ r.length
  hr : OwnRow 3 1 v i ((sumsL 0 (r.take i)).map i64c) ob
structure LmK (l m : Int) (P : List Int) where
  i : Nat
  x : Int
  y : Int
  p : Int
  all : Int
  less : Int
  le : i ≤ P.length
  hx : x = seenL l 0 (P.take i)
  hy : y = seenL (l + m) 0 (P.take i)
  hp : p = seenP 0 (P.take i)
  pb : -2000 ≤ p ∧ p ≤ 2000
  d1 : p - l ≤ x ∧ x ≤ p
  d2 : x - m ≤ y ∧ y ≤ x
  d3 : less ≤ all ∧ 0 ≤ less ∧ all ≤ 10000 * i
def mxI (a b : Int) : Int := if b > a then b else a
theorem lm_step {l m x y p z : Int} (hl : 0 ≤ l) (hm : 0 ≤ m) (d1 : p - l ≤ x ∧ x ≤ p) (d2 : x - m ≤ y ∧ y ≤ x) :
    (z - l ≤ seeZ l x z ∧ seeZ l x z ≤ z) ∧ (seeZ l x z - m ≤ seeZ (l + m) y z ∧ seeZ (l + m) y z ≤ seeZ l x z) ∧
    mxI (seeZ (l + m) y z - y) (y - seeZ (l + m) y z) ≤ mxI (seeZ l x z - x) (x - seeZ l x z) ∧ 0 ≤ mxI (seeZ (l + m) y z - y) (y - seeZ (l + m) y z) ∧
    ((0 ≤ seeZ l x z - x ∧ 0 ≤ z - p) ∨ (seeZ l x z - x ≤ 0 ∧ z - p ≤ 0) ∨ seeZ l x z - x = 0) := by
  unfold seeZ mxI
  repeat' split
  all_goals omega
theorem lm_sign {a b : Int} (h : (0 ≤ a ∧ 0 ≤ b) ∨ (a ≤ 0 ∧ b ≤ 0) ∨ a = 0) : 0 ≤ a * b := by
  rcases h with ⟨h1, h2⟩ | ⟨h1, h2⟩ | h
  · exact Int.mul_nonneg h1 h2
  · have := Int.mul_nonneg (a := -a) (b := -b) (by omega) (by omega)
    rwa [Int.neg_mul_neg] at this
  · rw [h, Int.zero_mul]; decide
theorem lm_bound {a b : Int} (ha : -10000 ≤ a ∧ a ≤ 10000) (hb : -10000 ≤ b ∧ b ≤ 10000) : -9223372036854775808 ≤ a * b ∧ a * b ≤ 9223372036854775807 := by
  have h1 : (a * b).natAbs ≤ 10000 * 10000 := by
    rw [Int.natAbs_mul]; exact Nat.mul_le_mul (by omega) (by omega)
  omega
theorem LmK.step {l m : Int} {P : List Int} (k : LmK l m P) (hl : 0 ≤ l ∧ l ≤ 199) (hm : 0 ≤ m) (h : k.i < P.length) (hP : ∀ z ∈ P, -2000 ≤ z ∧ z ≤ 2000) :
    (el P k.i - l ≤ el (playL l 0 P) k.i ∧ el (playL l 0 P) k.i ≤ el P k.i) ∧ (el (playL l 0 P) k.i - m ≤ el (playL (l + m) 0 P) k.i ∧ el (playL (l + m) 0 P) k.i ≤ el (playL l 0 P) k.i) ∧
    mxI (el (playL (l + m) 0 P) k.i - k.y) (k.y - el (playL (l + m) 0 P) k.i) ≤ mxI (el (playL l 0 P) k.i - k.x) (k.x - el (playL l 0 P) k.i) ∧ 0 ≤ mxI (el (playL (l + m) 0 P) k.i - k.y) (k.y - el (playL (l + m) 0 P) k.i) ∧
    0 ≤ (el (playL l 0 P) k.i - k.x) * (el P k.i - k.p) ∧ (-2000 ≤ el P k.i ∧ el P k.i ≤ 2000) ∧ mxI (el (playL l 0 P) k.i - k.x) (k.x - el (playL l 0 P) k.i) ≤ 10000 := by
  have eA := play_el (l := l) (s := 0) h
  have eB := play_el (l := l + m) (s := 0) h
  rw [← k.hx] at eA
  rw [← k.hy] at eB
  have hz := hP _ (el_mem h)
  obtain ⟨s1, s2, s3, s4, s5⟩ := lm_step (z := el P k.i) hl.1 hm k.d1 k.d2
  rw [← eA, ← eB] at s2 s3
  rw [← eA] at s1 s5
  rw [← eB] at s4
  refine ⟨s1, s2, s3, s4, lm_sign s5, hz, ?_⟩
  have := k.d1; have := k.pb
  unfold mxI
  split <;> omega
def LmK.next {l m : Int} {P : List Int} (k : LmK l m P) (hl : 0 ≤ l ∧ l ≤ 199) (hm : 0 ≤ m) (h : k.i < P.length) (hP : ∀ z ∈ P, -2000 ≤ z ∧ z ≤ 2000) : LmK l m P :=
  ⟨k.i + 1, el (playL l 0 P) k.i, el (playL (l + m) 0 P) k.i, el P k.i, k.all + mxI (el (playL l 0 P) k.i - k.x) (k.x - el (playL l 0 P) k.i), k.less + mxI (el (playL (l + m) 0 P) k.i - k.y) (k.y - el (playL (l + m) 0 P) k.i), h,
    by rw [play_el h, seenL_snoc h], by rw [play_el h, seenL_snoc h], by rw [take_el h, seenP_app]; rfl, (k.step hl hm h hP).2.2.2.2.2.1, (k.step hl hm h hP).1, (k.step hl hm h hP).2.1, by
      obtain ⟨_, _, s3, s4, _, _, s7⟩ := k.step hl hm h hP
      have := k.d3
      omega⟩
theorem q_mxI {P : Program} {N : Nat} {m : Sl} {S : World → Prop} {ty : TypeId} {T T' : TypeId} {x y : Operand} {a b : Int} (hx : ev m x = some (.int .i64 a)) (hy : ev m y = some (.int .i64 b)) : Qt P N m S (.call ⟨.builtin .max, #[x, y], #[T, T']⟩) ty (.int .i64 (mxI a b)) := q_max hx hy
theorem neI9 (a : Int) : binV .neq (.int .i64 a) (.int .i64 a) = some (.bool false) := by show some (Value.bool (a != a)) = _; rw [bne_self_eq_false]
theorem lmrow {F : Gs} {q : Option Addr} {i k : Nat} {ms : List Int} (hrn : k = i) (hge : i = ms.length) (h : RowR F q i 1 ((sumsL 0 (ms.take i)).map i64c)) : RowR F q k 1 ((sumsL 0 ms).map i64c) := by
  subst hrn; subst hge; rwa [List.take_length] at h
theorem sl_31 : slB Tryz.prog 31 = some 32 := by kernel_rfl
theorem ty_32 : tyB Tryz.prog 32 = some (false, 1) := by kernel_rfl
theorem un_32 : (Tryz.prog.underlying 32).isSome = true := by kernel_rfl
theorem un_30 : (Tryz.prog.underlying 30).isSome = true := by kernel_rfl
theorem lostm_g {w : World} {F : Gs} {a b : Int} {q : Option Addr} {n c : Nat} {ms : List Int} (hF : Fits F w) (hGl : Glob F) (ha : 0 ≤ a ∧ a ≤ 65535) (hb : 0 ≤ b ∧ b ≤ 65535) (hR : RowR F q n 1 (ms.map i8c)) (hn : ms.length = n) (h8 : ∀ x ∈ ms, -128 ≤ x ∧ x ≤ 127) :
    GivesVal Tryz.prog 4 [.int .u16 a, .int .u16 b, .slice q n c] w F (.bool true) := by
  refine CallsG.intro (G := fun F => Glob F ∧ RowR F q n 1 (ms.map i8c)) Tryz.func4 rfl (by rfl) rfl rfl hF (fun F' hF' => ⟨hGl.le hF', hR.le hF'⟩) ?_
  refine J_seq ?_
  refine J_region ?_
  refine JS_q (q_assign rfl) ?_
  refine JS_nil ?_
  refine F_then ?_
  refine J_seq ?_
  refine J_seq ?_
  refine J_region ?_
  refine JS_q (q_move rfl) ?_
  refine JS_q (q_lenSl rfl sl_31) ?_
  refine JS_q (q_bin rfl rfl rfl) ?_
  refine JS_nil ?_
  refine F_then ?_
  refine J_cond rfl (fun hc => ?_) (fun hc => ?_)
  ·
    skip
    refine J_seq ?_
    refine J_region ?_
    refine JS_call rfl (fun w F hF ⟨hGl, hR⟩ => awake9_g hF hGl) (fun _ => ?_)
    refine JS_q (q_assign rfl) ?_
    refine JS_nil ?_
    refine F_then ?_
    refine J_ret ?_
    exact F_ret1 (()) rfl (.tmp rfl .nil) (rfl) (fun F ⟨⟨hGl, hR⟩, _⟩ => trivial)
  ·
    have hk : n ≤ 12 := by have := of_decide_eq_false hc; omega
    refine J_skip ?_
    refine F_then ?_
    refine J_seq ?_
    refine J_region ?_
    refine JS_q (q_assign rfl) ?_
    refine JS_nil ?_
    refine F_then ?_
    refine J_seq ?_
    refine J_region ?_
    refine JS_q (q_assign rfl) ?_
    refine JS_nil ?_
    refine F_then ?_
    refine J_seq ?_
    refine J_seq ?_
    refine J_region ?_
    refine JS_q (q_assign rfl) ?_
    refine JS_nil ?_
    refine F_then ?_
    refine J_block ?_
    refine J_loopS (ι := LmJ ms) [(0, _), (1, _), (2, _)] (fun i => [(7, i.v), (8, .int .i64 (totL 0 (ms.take i.i))), (9, .int .i64 ((i.i : Nat) : Int))]) (fun i => i.ob) (fun i F => True) (fun i => ms.length - i.i) (⟨0, _, [], Nat.zero_le _, .nil⟩) ⟨rfl, rfl, rfl, trivial⟩ ⟨rfl, rfl, rfl, trivial⟩ (List.Sublist.refl _) (fun _ _ => trivial) (fun i => ?_)
    simp only [List.cons_append, List.nil_append]
    have hi := i.le
    refine J_seq ?_
    refine J_seq ?_
    refine J_region ?_
    refine JS_q (q_move rfl) ?_
    refine JS_q (q_move rfl) ?_
    refine JS_q (q_lenSl rfl sl_31) ?_
    refine JS_q (q_bin rfl rfl rfl) ?_
    refine JS_nil ?_
    refine F_then ?_
    refine J_cond rfl (fun hc => ?_) (fun hc => ?_)
    ·
      have hlt : i.i < ms.length := by have := of_decide_eq_true hc; omega
      have hx := h8 _ (el_mem hlt)
      have htl := totL_le (s := 0) (r := ms.take i.i) (fun x hx => h8 x (List.mem_of_mem_take hx))
      rw [List.length_take] at htl
      refine J_skip ?_
      refine F_then ?_
      refine J_seq ?_
      refine J_block ?_
      refine J_seq ?_
      refine J_region ?_
      refine JS_q (q_move rfl) ?_
      refine JS_q (q_move rfl) ?_
      refine JS_q (q_move rfl) ?_
      refine JS_q (q_idxQ (n := n) (i.i) (fun F ⟨⟨hGl, hR⟩, _⟩ => hR) rfl rfl sl_31 ty_32 (by omega)) ?_
      refine JS_q (q_loadQ (n := n) ((i.i) * 1) (fun F ⟨⟨hGl, hR⟩, _⟩ => hR) (by omega) rfl ty_32 (map_el (f := i8c) (l := ms) (by omega))) ?_
      refine JS_q (q_convI64 rfl un_32 k_3 (by omega)) ?_
      refine JS_q (q_add rfl rfl (by omega)) ?_
      refine JS_q (q_assign rfl) ?_
      refine JS_nil ?_
      refine F_then ?_
      refine J_region ?_
      refine JS_q (q_move rfl) ?_
      refine JS_q (q_move rfl) ?_
      refine JS_buildSliceF rfl (slB_u sl_22) ty_3 z_3 rfl rfl (fun b40 => ?_)
      refine JS_app (bs1 := []) (ob := i.ob) (k := 1) (sz := 1) (news := [_]) rfl rfl sl_22 ty_3 z_3 rfl by_3 i.hr (Src.row (off := 0) (fun F ⟨⟨⟨hGl, hR⟩, _⟩, hs40⟩ => hs40) (fun j v hv => by rw [Nat.zero_add]; show ([_].toArray)[j]? = some v; rw [List.getElem?_toArray]; exact hv) rfl) (by omega) (by omega) (oneAll_mem ⟨rfl, trivial⟩) (fun v41 ob41 hr41 => ?_)
      refine JS_q (q_assign rfl) ?_
      refine JS_nil ?_
      refine F_block ?_
      refine F_then ?_
      refine J_region ?_
      refine JS_q (q_move rfl) ?_
      refine JS_q (q_add rfl rfl (by omega)) ?_
      refine JS_q (q_assign rfl) ?_
      refine JS_nil ?_
      exact F_again (⟨i.i + 1, v41, ob41, hlt, by rw [sumsL_snoc hlt, List.map_append]; exact hr41⟩) (by show ms.length - (i.i + 1) < ms.length - i.i; omega) ⟨rfl, rfl, rfl, rfl, (congrArg (fun z : Int => some (Value.int .i64 z)) ((totL_snoc hlt).symm)), rfl, trivial⟩ (List.Sublist.refl _) (fun F h => ⟨h.1.1, trivial⟩)
    ·
      have hge : i.i = ms.length := by have := of_decide_eq_false hc; omega
      refine J_exit ?_
      repeat (first | refine F_then_exit ?_ | refine F_block_miss (by rfl) ?_)
      refine F_block_hit ?_
      refine F_then ?_
      refine J_seq ?_
      obtain ⟨rr, hv, hrn, hrc, hfix⟩ := OwnRow.fix (w0 := w) (F0 := F) (bs1 := []) (G := _) i.hr
      refine J_fix hfix ?_
      rw [hv]
      have hnP : (sumsL 0 ms).length = rr.n := by rw [sumsL_len, hrn, hge]
      have hnk : rr.n ≤ 12 := by omega
      have hPb : ∀ z ∈ sumsL 0 ms, -2000 ≤ z ∧ z ≤ 2000 := fun z hz => by
        have := sumsL_le (s := 0) h8 z hz
        omega
      have hE1 : playE (a % 200) 0 (sumsL 0 ms) = 0 := playE_zero (by omega) (by omega) (fun x hx => by have := hPb x hx; omega)
      have hE2 : playE (a % 200 + b % 200) 0 (sumsL 0 ms) = 0 := playE_zero (by omega) (by omega) (fun x hx => by have := hPb x hx; omega)
      refine J_region ?_
      refine JS_q (q_move rfl) ?_
      refine JS_q (q_convI64 rfl un_30 k_3 (by omega)) ?_
      refine JS_q (q_remN (a := a) (b := 200) rfl rfl (by omega) (by omega)) ?_
      refine JS_q (q_assign rfl) ?_
      refine JS_nil ?_
      refine F_then ?_
      refine J_seq ?_
      refine J_region ?_
      refine JS_q (q_move rfl) ?_
      refine JS_q (q_move rfl) ?_
      refine JS_call rfl (fun w F hF ⟨⟨⟨hGl, hR⟩, _⟩, hrow⟩ => rplay0_g (l := a % 200) (s := 0) (r := sumsL 0 ms) hF (lmrow hrn hge hrow) hnP (by omega) hE1) (fun c48 => ?_)
      refine JS_pure _ (fun w F hF h => h.2.2.1) (fun n48 => ?_)
      refine JS_q (q_move rfl) ?_
      refine JS_q (q_extract rfl rfl) ?_
      refine JS_q (q_extract rfl rfl) ?_
      refine JS_q (q_assign rfl) ?_
      refine JS_q (q_assign rfl) ?_
      refine JS_nil ?_
      refine F_then ?_
      refine J_seq ?_
      refine J_region ?_
      refine JS_q (q_move rfl) ?_
      refine JS_q (q_move rfl) ?_
      refine JS_q (q_convI64 rfl un_30 k_3 (by omega)) ?_
      refine JS_q (q_remN (a := b) (b := 200) rfl rfl (by omega) (by omega)) ?_
      refine JS_q (q_add rfl rfl (by omega)) ?_
      refine JS_q (q_move rfl) ?_
      refine JS_call rfl (fun w F hF ⟨⟨⟨⟨hGl, hR⟩, _⟩, hrow⟩, h48⟩ => rplay0_g (l := a % 200 + b % 200) (s := 0) (r := sumsL 0 ms) hF (lmrow hrn hge hrow) hnP (by omega) hE2) (fun c58 => ?_)
      refine JS_pure _ (fun w F hF h => h.2.2.1) (fun n58 => ?_)
      refine JS_q (q_move rfl) ?_
      refine JS_q (q_extract rfl rfl) ?_
      refine JS_q (q_extract rfl rfl) ?_
      refine JS_q (q_assign rfl) ?_
      refine JS_q (q_assign rfl) ?_
      refine JS_nil ?_
      refine F_then ?_
      refine J_seq ?_
      refine J_seq ?_
      refine J_region ?_
      refine JS_q (q_move rfl) ?_
      refine JS_q (q_move rfl) ?_
      refine JS_q (q_add rfl rfl (by omega)) ?_
      refine JS_q (q_bin (v := .bool false) rfl rfl (rfl)) ?_
      refine JS_q (q_move rfl) ?_
      refine JS_g1 rfl rfl ?_
      refine JS_q (q_move rfl) ?_
      refine JS_g1 rfl rfl ?_
      refine JS_q (q_lenSl rfl sl_22) ?_
      refine JS_g1 rfl rfl ?_
      refine JS_q (q_move rfl) ?_
      refine JS_g1 rfl rfl ?_
      refine JS_q (q_lenSl rfl sl_22) ?_
      refine JS_g1 rfl rfl ?_
      refine JS_q (q_bin (v := .bool false) rfl rfl (by rw [show c48.n = rr.n from by rw [← n48, playL_len, hnP]]; exact neI9 _)) ?_
      refine JS_q (q_pickF rfl rfl rfl) ?_
      refine JS_q (q_move rfl) ?_
      refine JS_g1 rfl rfl ?_
      refine JS_q (q_move rfl) ?_
      refine JS_g1 rfl rfl ?_
      refine JS_q (q_lenSl rfl sl_22) ?_
      refine JS_g1 rfl rfl ?_
      refine JS_q (q_move rfl) ?_
      refine JS_g1 rfl rfl ?_
      refine JS_q (q_lenSl rfl sl_22) ?_
      refine JS_g1 rfl rfl ?_
      refine JS_q (q_bin (v := .bool false) rfl rfl (by rw [show c58.n = rr.n from by rw [← n58, playL_len, hnP]]; exact neI9 _)) ?_
      refine JS_q (q_pickF rfl rfl rfl) ?_
      refine JS_nil ?_
      refine F_then ?_
      refine J_condF rfl ?_
      refine J_skip ?_
      refine F_then ?_
      refine J_seq ?_
      refine J_region ?_
      refine JS_q (q_assign rfl) ?_
      refine JS_q (q_assign rfl) ?_
      refine JS_q (q_assign rfl) ?_
      refine JS_q (q_assign rfl) ?_
      refine JS_q (q_assign rfl) ?_
      refine JS_nil ?_
      refine F_then ?_
      refine J_seq ?_
      refine J_seq ?_
      refine J_region ?_
      refine JS_q (q_assign rfl) ?_
      refine JS_nil ?_
      refine F_then ?_
      refine J_block ?_
      refine J_loopT (ι := LmK (a % 200) (b % 200) (sumsL 0 ms)) [(7, _), (10, _), (11, _), (13, _)] (fun k => [(15, .int .i64 (k.x)), (16, .int .i64 (k.y)), (17, .int .i64 (k.p)), (18, .int .i64 (k.all)), (19, .int .i64 (k.less)), (20, .int .i64 ((k.i : Nat) : Int))]) (fun k => (sumsL 0 ms).length - k.i) (⟨0, 0, 0, 0, 0, 0, Nat.zero_le _, rfl, rfl, rfl, by omega, by omega, by omega, by omega⟩) ⟨rfl, rfl, rfl, rfl, trivial⟩ ⟨rfl, rfl, rfl, rfl, rfl, rfl, trivial⟩ (fun k => ?_)
      simp only [List.cons_append, List.nil_append]
      have hk2 := k.le
      refine J_seq ?_
      refine J_seq ?_
      refine J_region ?_
      refine JS_q (q_move rfl) ?_
      refine JS_q (q_move rfl) ?_
      refine JS_q (q_lenSl rfl sl_22) ?_
      refine JS_q (q_bin rfl rfl rfl) ?_
      refine JS_nil ?_
      refine F_then ?_
      refine J_cond rfl (fun hc => ?_) (fun hc => ?_)
      ·
        have hlt2 : k.i < (sumsL 0 ms).length := by have := of_decide_eq_true hc; omega
        obtain ⟨s1, s2, s3, s4, s5, s6, s7⟩ := k.step (by omega) (by omega) hlt2 hPb
        have kpb := k.pb
        have kd1 := k.d1
        have kd2 := k.d2
        have kd3 := k.d3
        have nA : (playL (a % 200) 0 (sumsL 0 ms)).length = (sumsL 0 ms).length := playL_len _ _ _
        have nB : (playL (a % 200 + b % 200) 0 (sumsL 0 ms)).length = (sumsL 0 ms).length := playL_len _ _ _
        refine J_skip ?_
        refine F_then ?_
        refine J_seq ?_
        refine J_block ?_
        refine J_seq ?_
        refine J_seq ?_
        refine J_lexW (List.Sublist.refl _) mixed (by kernel_rfl) ?_
        refine JD_q (q_move rfl) ?_
        refine JD_q (q_move rfl) ?_
        refine JD_q (q_idxQ (n := c48.n) (k.i) (fun F ⟨⟨⟨⟨⟨hGl, hR⟩, _⟩, hrow⟩, h48⟩, h58⟩ => h48.1) rfl rfl sl_22 ty_3 (by omega)) ?_
        refine JD_q (q_loadQ (n := c48.n) ((k.i) * 1) (fun F ⟨⟨⟨⟨⟨hGl, hR⟩, _⟩, hrow⟩, h48⟩, h58⟩ => h48.1) (by omega) rfl ty_3 (map_el (f := i64c) (l := (playL (a % 200) 0 (sumsL 0 ms))) (by omega))) ?_
        refine JD_q (q_move rfl) ?_
        refine JD_q (q_move rfl) ?_
        refine JD_q (q_idxQ (n := rr.n) (k.i) (fun F ⟨⟨⟨⟨⟨hGl, hR⟩, _⟩, hrow⟩, h48⟩, h58⟩ => (lmrow hrn hge hrow)) rfl rfl sl_22 ty_3 (by omega)) ?_
        refine JD_q (q_loadQ (n := rr.n) ((k.i) * 1) (fun F ⟨⟨⟨⟨⟨hGl, hR⟩, _⟩, hrow⟩, h48⟩, h58⟩ => (lmrow hrn hge hrow)) (by omega) rfl ty_3 (map_el (f := i64c) (l := (sumsL 0 ms)) (by omega))) ?_
        refine JD_q (q_bin (v := .bool false) rfl rfl (congrArg (fun b => some (Value.bool b)) (decide_eq_false (by omega)))) ?_
        refine JD_q (q_move rfl) ?_
        refine JD_g1 rfl rfl ?_
        refine JD_q (q_move rfl) ?_
        refine JD_g1 rfl rfl ?_
        refine JD_q (q_move rfl) ?_
        refine JD_g1 rfl rfl ?_
        refine JD_q (q_idxQ (n := c48.n) (k.i) (fun F ⟨⟨⟨⟨⟨hGl, hR⟩, _⟩, hrow⟩, h48⟩, h58⟩ => h48.1) rfl rfl sl_22 ty_3 (by omega)) ?_
        refine JD_g1 rfl rfl ?_
        refine JD_q (q_loadQ (n := c48.n) ((k.i) * 1) (fun F ⟨⟨⟨⟨⟨hGl, hR⟩, _⟩, hrow⟩, h48⟩, h58⟩ => h48.1) (by omega) rfl ty_3 (map_el (f := i64c) (l := (playL (a % 200) 0 (sumsL 0 ms))) (by omega))) ?_
        refine JD_g1 rfl rfl ?_
        refine JD_q (q_move rfl) ?_
        refine JD_g1 rfl rfl ?_
        refine JD_q (q_move rfl) ?_
        refine JD_g1 rfl rfl ?_
        refine JD_q (q_idxQ (n := rr.n) (k.i) (fun F ⟨⟨⟨⟨⟨hGl, hR⟩, _⟩, hrow⟩, h48⟩, h58⟩ => (lmrow hrn hge hrow)) rfl rfl sl_22 ty_3 (by omega)) ?_
        refine JD_g1 rfl rfl ?_
        refine JD_q (q_loadQ (n := rr.n) ((k.i) * 1) (fun F ⟨⟨⟨⟨⟨hGl, hR⟩, _⟩, hrow⟩, h48⟩, h58⟩ => (lmrow hrn hge hrow)) (by omega) rfl ty_3 (map_el (f := i64c) (l := (sumsL 0 ms)) (by omega))) ?_
        refine JD_g1 rfl rfl ?_
        refine JD_q (q_move rfl) ?_
        refine JD_g1 rfl rfl ?_
        refine JD_q (q_sub rfl rfl (by omega)) ?_
        refine JD_g1 rfl rfl ?_
        refine JD_q (q_bin (v := .bool false) rfl rfl (congrArg (fun b => some (Value.bool b)) (decide_eq_false (by omega)))) ?_
        refine JD_q (q_pickF rfl rfl rfl) ?_
        refine JD_q (q_move rfl) ?_
        refine JD_g1 rfl rfl ?_
        refine JD_q (q_move rfl) ?_
        refine JD_g1 rfl rfl ?_
        refine JD_q (q_move rfl) ?_
        refine JD_g1 rfl rfl ?_
        refine JD_q (q_idxQ (n := c48.n) (k.i) (fun F ⟨⟨⟨⟨⟨hGl, hR⟩, _⟩, hrow⟩, h48⟩, h58⟩ => h48.1) rfl rfl sl_22 ty_3 (by omega)) ?_
        refine JD_g1 rfl rfl ?_
        refine JD_q (q_loadQ (n := c48.n) ((k.i) * 1) (fun F ⟨⟨⟨⟨⟨hGl, hR⟩, _⟩, hrow⟩, h48⟩, h58⟩ => h48.1) (by omega) rfl ty_3 (map_el (f := i64c) (l := (playL (a % 200) 0 (sumsL 0 ms))) (by omega))) ?_
        refine JD_g1 rfl rfl ?_
        refine JD_q (q_move rfl) ?_
        refine JD_g1 rfl rfl ?_
        refine JD_q (q_sub rfl rfl (by omega)) ?_
        refine JD_g1 rfl rfl ?_
        refine JD_q (q_move rfl) ?_
        refine JD_g1 rfl rfl ?_
        refine JD_q (q_move rfl) ?_
        refine JD_g1 rfl rfl ?_
        refine JD_q (q_idxQ (n := rr.n) (k.i) (fun F ⟨⟨⟨⟨⟨hGl, hR⟩, _⟩, hrow⟩, h48⟩, h58⟩ => (lmrow hrn hge hrow)) rfl rfl sl_22 ty_3 (by omega)) ?_
        refine JD_g1 rfl rfl ?_
        refine JD_q (q_loadQ (n := rr.n) ((k.i) * 1) (fun F ⟨⟨⟨⟨⟨hGl, hR⟩, _⟩, hrow⟩, h48⟩, h58⟩ => (lmrow hrn hge hrow)) (by omega) rfl ty_3 (map_el (f := i64c) (l := (sumsL 0 ms)) (by omega))) ?_
        refine JD_g1 rfl rfl ?_
        refine JD_q (q_move rfl) ?_
        refine JD_g1 rfl rfl ?_
        refine JD_q (q_sub rfl rfl (by omega)) ?_
        refine JD_g1 rfl rfl ?_
        refine JD_q (q_mul rfl rfl (lm_bound (by omega) (by omega))) ?_
        refine JD_g1 rfl rfl ?_
        refine JD_q (q_bin (v := .bool false) rfl rfl (congrArg (fun b => some (Value.bool b)) (decide_eq_false (by omega)))) ?_
        refine JD_q (q_pickF rfl rfl rfl) ?_
        refine JD_done ?_
        refine F_then ?_
        refine J_condF rfl ?_
        refine J_skip ?_
        refine F_then ?_
        refine J_seq ?_
        refine J_lexW (List.Sublist.refl _) mixed (by kernel_rfl) ?_
        refine JD_q (q_move rfl) ?_
        refine JD_q (q_move rfl) ?_
        refine JD_q (q_move rfl) ?_
        refine JD_q (q_idxQ (n := c48.n) (k.i) (fun F ⟨⟨⟨⟨⟨hGl, hR⟩, _⟩, hrow⟩, h48⟩, h58⟩ => h48.1) rfl rfl sl_22 ty_3 (by omega)) ?_
        refine JD_q (q_loadQ (n := c48.n) ((k.i) * 1) (fun F ⟨⟨⟨⟨⟨hGl, hR⟩, _⟩, hrow⟩, h48⟩, h58⟩ => h48.1) (by omega) rfl ty_3 (map_el (f := i64c) (l := (playL (a % 200) 0 (sumsL 0 ms))) (by omega))) ?_
        refine JD_q (q_move rfl) ?_
        refine JD_q (q_sub rfl rfl (by omega)) ?_
        refine JD_q (q_move rfl) ?_
        refine JD_q (q_move rfl) ?_
        refine JD_q (q_move rfl) ?_
        refine JD_q (q_idxQ (n := c48.n) (k.i) (fun F ⟨⟨⟨⟨⟨hGl, hR⟩, _⟩, hrow⟩, h48⟩, h58⟩ => h48.1) rfl rfl sl_22 ty_3 (by omega)) ?_
        refine JD_q (q_loadQ (n := c48.n) ((k.i) * 1) (fun F ⟨⟨⟨⟨⟨hGl, hR⟩, _⟩, hrow⟩, h48⟩, h58⟩ => h48.1) (by omega) rfl ty_3 (map_el (f := i64c) (l := (playL (a % 200) 0 (sumsL 0 ms))) (by omega))) ?_
        refine JD_q (q_sub rfl rfl (by omega)) ?_
        refine JD_q (q_mxI (a := el (playL (a % 200) 0 (sumsL 0 ms)) k.i - k.x) (b := k.x - el (playL (a % 200) 0 (sumsL 0 ms)) k.i) rfl rfl) ?_
        refine JD_q (q_add rfl rfl (by omega)) ?_
        refine JD_q (q_assign rfl) ?_
        refine JD_done ?_
        refine F_then ?_
        refine J_seq ?_
        refine J_lexW (List.Sublist.refl _) mixed (by kernel_rfl) ?_
        refine JD_q (q_move rfl) ?_
        refine JD_q (q_move rfl) ?_
        refine JD_q (q_move rfl) ?_
        refine JD_q (q_idxQ (n := c58.n) (k.i) (fun F ⟨⟨⟨⟨⟨hGl, hR⟩, _⟩, hrow⟩, h48⟩, h58⟩ => h58.1) rfl rfl sl_22 ty_3 (by omega)) ?_
        refine JD_q (q_loadQ (n := c58.n) ((k.i) * 1) (fun F ⟨⟨⟨⟨⟨hGl, hR⟩, _⟩, hrow⟩, h48⟩, h58⟩ => h58.1) (by omega) rfl ty_3 (map_el (f := i64c) (l := (playL (a % 200 + b % 200) 0 (sumsL 0 ms))) (by omega))) ?_
        refine JD_q (q_move rfl) ?_
        refine JD_q (q_sub rfl rfl (by omega)) ?_
        refine JD_q (q_move rfl) ?_
        refine JD_q (q_move rfl) ?_
        refine JD_q (q_move rfl) ?_
        refine JD_q (q_idxQ (n := c58.n) (k.i) (fun F ⟨⟨⟨⟨⟨hGl, hR⟩, _⟩, hrow⟩, h48⟩, h58⟩ => h58.1) rfl rfl sl_22 ty_3 (by omega)) ?_
        refine JD_q (q_loadQ (n := c58.n) ((k.i) * 1) (fun F ⟨⟨⟨⟨⟨hGl, hR⟩, _⟩, hrow⟩, h48⟩, h58⟩ => h58.1) (by omega) rfl ty_3 (map_el (f := i64c) (l := (playL (a % 200 + b % 200) 0 (sumsL 0 ms))) (by omega))) ?_
        refine JD_q (q_sub rfl rfl (by omega)) ?_
        refine JD_q (q_mxI (a := el (playL (a % 200 + b % 200) 0 (sumsL 0 ms)) k.i - k.y) (b := k.y - el (playL (a % 200 + b % 200) 0 (sumsL 0 ms)) k.i) rfl rfl) ?_
        refine JD_q (q_add rfl rfl (by omega)) ?_
        refine JD_q (q_assign rfl) ?_
        refine JD_done ?_
        refine F_then ?_
        refine J_lexW (List.Sublist.refl _) mixed (by kernel_rfl) ?_
        refine JD_q (q_move rfl) ?_
        refine JD_q (q_move rfl) ?_
        refine JD_q (q_idxQ (n := c48.n) (k.i) (fun F ⟨⟨⟨⟨⟨hGl, hR⟩, _⟩, hrow⟩, h48⟩, h58⟩ => h48.1) rfl rfl sl_22 ty_3 (by omega)) ?_
        refine JD_q (q_loadQ (n := c48.n) ((k.i) * 1) (fun F ⟨⟨⟨⟨⟨hGl, hR⟩, _⟩, hrow⟩, h48⟩, h58⟩ => h48.1) (by omega) rfl ty_3 (map_el (f := i64c) (l := (playL (a % 200) 0 (sumsL 0 ms))) (by omega))) ?_
        refine JD_q (q_move rfl) ?_
        refine JD_q (q_move rfl) ?_
        refine JD_q (q_idxQ (n := c58.n) (k.i) (fun F ⟨⟨⟨⟨⟨hGl, hR⟩, _⟩, hrow⟩, h48⟩, h58⟩ => h58.1) rfl rfl sl_22 ty_3 (by omega)) ?_
        refine JD_q (q_loadQ (n := c58.n) ((k.i) * 1) (fun F ⟨⟨⟨⟨⟨hGl, hR⟩, _⟩, hrow⟩, h48⟩, h58⟩ => h58.1) (by omega) rfl ty_3 (map_el (f := i64c) (l := (playL (a % 200 + b % 200) 0 (sumsL 0 ms))) (by omega))) ?_
        refine JD_q (q_move rfl) ?_
        refine JD_q (q_move rfl) ?_
        refine JD_q (q_idxQ (n := rr.n) (k.i) (fun F ⟨⟨⟨⟨⟨hGl, hR⟩, _⟩, hrow⟩, h48⟩, h58⟩ => (lmrow hrn hge hrow)) rfl rfl sl_22 ty_3 (by omega)) ?_
        refine JD_q (q_loadQ (n := rr.n) ((k.i) * 1) (fun F ⟨⟨⟨⟨⟨hGl, hR⟩, _⟩, hrow⟩, h48⟩, h58⟩ => (lmrow hrn hge hrow)) (by omega) rfl ty_3 (map_el (f := i64c) (l := (sumsL 0 ms)) (by omega))) ?_
        refine JD_q (q_assign rfl) ?_
        refine JD_q (q_assign rfl) ?_
        refine JD_q (q_assign rfl) ?_
        refine JD_done ?_
        refine F_block ?_
        refine F_then ?_
        refine J_region ?_
        refine JS_q (q_move rfl) ?_
        refine JS_q (q_add rfl rfl (by omega)) ?_
        refine JS_q (q_assign rfl) ?_
        refine JS_nil ?_
        exact F_again (k.next (by omega) (by omega) hlt2 hPb) (by show (sumsL 0 ms).length - (k.i + 1) < (sumsL 0 ms).length - k.i; omega) ⟨rfl, rfl, rfl, rfl, rfl, rfl, rfl, rfl, rfl, rfl, trivial⟩ (List.Sublist.refl _) (fun F h => h)
      ·
        skip
        refine J_exit ?_
        repeat (first | refine F_then_exit ?_ | refine F_block_miss (by rfl) ?_)
        refine F_block_hit ?_
        refine F_then ?_
        refine J_seq ?_
        refine J_region ?_
        refine JS_q (q_move rfl) ?_
        refine JS_q (q_move rfl) ?_
        refine JS_q (q_bin (v := .bool true) rfl rfl (congrArg (fun b => some (Value.bool b)) (decide_eq_true (by have := k.d3; omega)))) ?_
        refine JS_q (q_move rfl) ?_
        refine JS_g1 rfl rfl ?_
        refine JS_call rfl (fun w F hF ⟨⟨⟨⟨⟨hGl, hR⟩, _⟩, hrow⟩, h48⟩, h58⟩ => awake9_g hF hGl) (fun _ => ?_)
        refine JS_q (q_pickT rfl rfl rfl) ?_
        refine JS_q (q_assign rfl) ?_
        refine JS_nil ?_
        refine F_then ?_
        refine J_ret ?_
        exact F_ret1 (()) rfl (.tmp rfl .nil) (rfl) (fun F ⟨⟨⟨⟨⟨⟨hGl, hR⟩, _⟩, hrow⟩, h48⟩, h58⟩, _⟩ => trivial)
end Go.Proofs.YtfdgciidfohhgaaGreatDoor
