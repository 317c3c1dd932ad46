/-
  What awake computes, and the law walked.
-/
import Derived.Test.YtfdgciidfohhgaaGreatDoorE14
import Derived.Test.YtfdgciidfohhgaaGreatDoorP0Cz
set_option linter.all false
namespace Go.Proofs.YtfdgciidfohhgaaGreatDoor
open Go.RowKit Ig
theorem powZ_eq : (Lib.pow10Tab.map fun z => Value.int .u64 z) = Ev.powZ.map fun z => Value.int .u64 z := by unfold Lib.pow10Tab Ev.powZ; rfl
theorem awake9_g {w : World} {F : Gs} (hF : Fits F w) (hGl : Glob F) : GivesVal Tryz.prog 5 [] w F (.bool true) := by
  obtain ⟨_, T, h2⟩ := hGl
  obtain ⟨fr, e⟩ := hF.row _ _ _ h2
  rw [powZ_eq] at e
  obtain ⟨r, h3, h4⟩ := Ev.awake_ca
  exact .of (enters_of Tryz.func5 (by kernel_rfl) (by kernel_rfl)) hF (Ev.start_calls (by kernel_rfl) (by decide) h3 h4 e)
end Go.Proofs.YtfdgciidfohhgaaGreatDoor

namespace Go.Proofs.YtfdgciidfohhgaaGreatDoor
open Go.RowKit Ig
def rbB (l s : Int) : Bool := (((decide (l < 0) || decide (l > 999999999)) || decide (s < -999999999)) || decide (s > 999999999))
def w0Z (l s : Int) (n : Nat) : Int := if rbB l s = true then 3 else if decide ((n : Int) > 256) = true then 5 else 0
theorem rb_eq (l s : Int) : (!(decide (l ≥ 0) && decide (l ≤ 999999999)) || farB s) = rbB l s := by
  unfold farB rbB
  rw [Bool.eq_iff_iff]
  simp only [Bool.or_eq_true, Bool.not_eq_true', Bool.and_eq_false_iff, decide_eq_true_eq, decide_eq_false_iff_not]
  omega
theorem playE_eq (l s : Int) (r : List Int) : playE l s r = if w0Z l s r.length ≠ 0 then w0Z l s r.length else if r.any farB = true then 3 else 0 := by
  unfold playE w0Z
  rw [rb_eq]
  cases rbB l s <;> cases decide ((r.length : Int) > 256) <;> cases r.any farB <;> rfl
structure RpJ (l s : Int) (r : List Int) where
  i : Nat
  v : Value
  ob : List (Nat × Obj)
  le : i ≤ r.length
  hr : OwnRow 3 1 v i ((playL l s (r.take i)).map i64c) ob
  far : ∀ x ∈ r.take i, farB x = false
structure RpE (l s : Int) (r : List Int) where
  v : Value
  ob : List (Nat × Obj)
  k : Nat
  L : List Int
  hl : L.length = k
  hr : OwnRow 3 1 v k (L.map i64c) ob
  h : playE l s r = 0 → L = playL l s r
theorem RpJ.all {l s : Int} {r : List Int} (j : RpJ l s r) (h : j.i = r.length) : r.any farB = false := by
  refine List.any_eq_false.2 fun x hx => ?_
  have := j.far x (by rw [h, List.take_length]; exact hx)
  rw [this]; decide
theorem RpJ.e_stop {l s : Int} {r : List Int} (j : RpJ l s r) (h : w0Z l s r.length = 0 → j.i = r.length) : w0Z l s r.length = playE l s r := by
  rw [playE_eq]
  by_cases g : w0Z l s r.length = 0
  · rw [if_neg (by rw [g]; decide), j.all (h g), if_neg (by decide)]; exact g
  · rw [if_pos g]
theorem RpJ.e_far {l s : Int} {r : List Int} {x : Int} (h : w0Z l s r.length = 0) (hx : x ∈ r) (hf : farB x = true) : (3 : Int) = playE l s r := by
  rw [playE_eq, if_neg (by rw [h]; decide), if_pos (List.any_eq_true.2 ⟨x, hx, hf⟩)]
def RpJ.stop {l s : Int} {r : List Int} (j : RpJ l s r) (h : w0Z l s r.length = 0 → j.i = r.length) : RpE l s r :=
  ⟨j.v, j.ob, j.i, playL l s (r.take j.i), by rw [playL_len, List.length_take]; have := j.le; omega, j.hr, fun e => by
    rw [← j.e_stop h] at e
    rw [h e, List.take_length]⟩
def RpJ.brk {l s : Int} {r : List Int} (j : RpJ l s r) {x : Int} (h : w0Z l s r.length = 0) (hx : x ∈ r) (hf : farB x = true) : RpE l s r :=
  ⟨j.v, j.ob, j.i, playL l s (r.take j.i), by rw [playL_len, List.length_take]; have := j.le; omega, j.hr, fun e => by
    rw [← RpJ.e_far h hx hf] at e; cases e⟩
theorem w0_ok {l s : Int} {n : Nat} (h : w0Z l s n = 0) : (0 ≤ l ∧ l ≤ 999999999) ∧ (-999999999 ≤ s ∧ s ≤ 999999999) := by
  unfold w0Z at h
  split at h
  · cases h
  · rename_i hb
    unfold rbB at hb
    simp only [Bool.or_eq_true, decide_eq_true_eq, not_or] at hb
    omega
theorem lookS_g {w : World} {F : Gs} {l s x : Int} (hF : Fits F w) (hl : 0 ≤ l ∧ l ≤ 999999999) (hx : -999999999 ≤ x ∧ x ≤ 999999999) : GivesVal Tryz.prog 7 [.int .i64 l, .int .i64 s, .int .i64 x] w F (.int .i64 (seeZ l s x)) := by
  rw [← look_see hl.1]; exact look_g hF (by omega) (by omega)
theorem plays_g {w : World} {F : Gs} {l s : Int} {q : Option Addr} {n c : Nat} {r : List Int} (hF : Fits F w) (hGl : Glob F) (hR : RowR F q n 1 (r.map i64c)) (hn : r.length = n) :
    GivesVal Tryz.prog 3 [.int .i64 l, .int .i64 s, .slice q n c] w F (.bool true) := by
  refine CallsG.intro (G := fun F => Glob F ∧ RowR F q n 1 (r.map i64c)) Tryz.func3 rfl (by rfl) rfl rfl hF (fun F' hF' => ⟨hGl.le hF', hR.le hF'⟩) ?_
  refine J_seq ?_
  refine J_region ?_
  refine JS_q (q_assign rfl) ?_
  refine JS_nil ?_
  refine F_then ?_
  refine J_seq ?_
  refine J_midK [(0, _), (1, _), (2, _)] [(24, .bool (((decide ((n : Int) > 20) && decide ((n : Int) ≤ 256)) || decide ((n : Int) > 261))))] ⟨rfl, rfl, rfl, trivial⟩ ?_ ?_
  ·
    refine J_region ?_
    refine JS_q (q_move rfl) ?_
    refine JS_q (q_lenSl rfl sl_22) ?_
    refine JS_q (q_bin rfl rfl rfl) ?_
    refine JS_q (q_move rfl) ?_
    refine JS_split (t := 15) rfl (fun hb15 => ?_) (fun hb15 => ?_)
    ·
      refine JS_g1 rfl rfl ?_
      refine JS_q (q_move rfl) ?_
      refine JS_g1 rfl rfl ?_
      refine JS_q (q_lenSl rfl sl_22) ?_
      refine JS_g1 rfl rfl ?_
      refine JS_q (q_bin rfl rfl rfl) ?_
      refine JS_q (q_pickT rfl rfl rfl) ?_
      refine JS_q (q_move rfl) ?_
      refine JS_split (t := 20) rfl (fun hb20 => ?_) (fun hb20 => ?_)
      ·
        refine JS_g0 rfl rfl rfl ?_
        refine JS_g0 rfl rfl rfl ?_
        refine JS_g0 rfl rfl rfl ?_
        refine JS_q (q_pickT rfl rfl rfl) ?_
        refine JS_nil ?_
        exact F_mid ⟨rfl, rfl, rfl, (congrArg (fun b => some (Value.bool b)) (by simp_all; try (intros; omega))), trivial⟩ (List.Sublist.refl _) (fun _ h => h)
      ·
        refine JS_g1 rfl rfl ?_
        refine JS_q (q_move rfl) ?_
        refine JS_g1 rfl rfl ?_
        refine JS_q (q_lenSl rfl sl_22) ?_
        refine JS_g1 rfl rfl ?_
        refine JS_q (q_bin rfl rfl rfl) ?_
        refine JS_q (q_pickF rfl rfl rfl) ?_
        refine JS_nil ?_
        exact F_mid ⟨rfl, rfl, rfl, (congrArg (fun b => some (Value.bool b)) (by simp_all; try (intros; omega))), trivial⟩ (List.Sublist.refl _) (fun _ h => h)
    ·
      refine JS_g0 rfl rfl rfl ?_
      refine JS_g0 rfl rfl rfl ?_
      refine JS_g0 rfl rfl rfl ?_
      refine JS_q (q_pickF rfl rfl rfl) ?_
      refine JS_q (q_move rfl) ?_
      refine JS_g1 rfl rfl ?_
      refine JS_q (q_move rfl) ?_
      refine JS_g1 rfl rfl ?_
      refine JS_q (q_lenSl rfl sl_22) ?_
      refine JS_g1 rfl rfl ?_
      refine JS_q (q_bin rfl rfl rfl) ?_
      refine JS_q (q_pickF rfl rfl rfl) ?_
      refine JS_nil ?_
      exact F_mid ⟨rfl, rfl, rfl, (congrArg (fun b => some (Value.bool b)) (by simp_all; try (intros; omega))), trivial⟩ (List.Sublist.refl _) (fun _ h => h)
  ·
    simp only [List.cons_append, List.nil_append]
    refine J_cond rfl (fun hc => ?_) (fun hc => ?_)
    ·
      skip
      refine J_seq ?_
      refine J_region ?_
      refine JS_call rfl (fun w F hF ⟨hGl, hR⟩ => awake9_g hF hGl) (fun _ => ?_)
      refine JS_q (q_assign rfl) ?_
      refine JS_nil ?_
      refine F_then ?_
      refine J_ret ?_
      exact F_ret1 (()) rfl (.tmp rfl .nil) (rfl) (fun F ⟨⟨hGl, hR⟩, _⟩ => trivial)
    ·
      have hg : ¬ ((n : Int) > 261) := fun h => by rw [decide_eq_true h, Bool.or_true] at hc; cases hc
      refine J_skip ?_
      refine F_then ?_
      refine J_seq ?_
      refine J_region ?_
      refine JS_q (q_move rfl) ?_
      refine JS_q (q_move rfl) ?_
      refine JS_q (q_move rfl) ?_
      refine JS_call rfl (fun w F hF ⟨hGl, hR⟩ => rplay_g hF hR hn (by omega)) (fun c30 => ?_)
      refine JS_pure _ (fun w F hF h => h.2.2.1) (fun n30 => ?_)
      refine JS_q (q_move rfl) ?_
      refine JS_q (q_extract rfl rfl) ?_
      refine JS_q (q_extract rfl rfl) ?_
      refine JS_q (q_assign rfl) ?_
      refine JS_q (q_assign rfl) ?_
      refine JS_nil ?_
      refine F_then ?_
      refine J_seq ?_
      refine J_region ?_
      refine JS_q (q_assign rfl) ?_
      refine JS_nil ?_
      refine F_then ?_
      refine J_midK [(0, _), (1, _), (2, _), (7, _), (8, _)] [(9, .int .i64 ((w0Z l s r.length)))] ⟨rfl, rfl, rfl, rfl, rfl, trivial⟩ ?_ ?_
      ·
        refine J_midK [(0, _), (1, _), (2, _), (7, _), (8, _), (9, _)] [(46, .bool ((rbB l s)))] ⟨rfl, rfl, rfl, rfl, rfl, rfl, trivial⟩ ?_ ?_
        ·
          refine J_region ?_
          refine JS_q (q_move rfl) ?_
          refine JS_q (q_bin rfl rfl rfl) ?_
          refine JS_q (q_move rfl) ?_
          refine JS_split (t := 35) rfl (fun hb35 => ?_) (fun hb35 => ?_)
          ·
            refine JS_g0 rfl rfl rfl ?_
            refine JS_g0 rfl rfl rfl ?_
            refine JS_q (q_pickT rfl rfl rfl) ?_
            refine JS_q (q_move rfl) ?_
            refine JS_g0 rfl rfl rfl ?_
            refine JS_g0 rfl rfl rfl ?_
            refine JS_q (q_pickT rfl rfl rfl) ?_
            refine JS_q (q_move rfl) ?_
            refine JS_g0 rfl rfl rfl ?_
            refine JS_g0 rfl rfl rfl ?_
            refine JS_q (q_pickT rfl rfl rfl) ?_
            refine JS_nil ?_
            exact F_mid ⟨rfl, rfl, rfl, rfl, rfl, rfl, (congrArg (fun b => some (Value.bool b)) (by unfold rbB; first | (rw [hb35]; rfl) | (rw [hb35, hb39]; rfl) | (rw [hb35, hb39, hb43]; rfl))), trivial⟩ (List.Sublist.refl _) (fun _ h => h)
          ·
            refine JS_g1 rfl rfl ?_
            refine JS_q (q_move rfl) ?_
            refine JS_g1 rfl rfl ?_
            refine JS_q (q_bin rfl rfl rfl) ?_
            refine JS_q (q_pickF rfl rfl rfl) ?_
            refine JS_q (q_move rfl) ?_
            refine JS_split (t := 39) rfl (fun hb39 => ?_) (fun hb39 => ?_)
            ·
              refine JS_g0 rfl rfl rfl ?_
              refine JS_g0 rfl rfl rfl ?_
              refine JS_q (q_pickT rfl rfl rfl) ?_
              refine JS_q (q_move rfl) ?_
              refine JS_g0 rfl rfl rfl ?_
              refine JS_g0 rfl rfl rfl ?_
              refine JS_q (q_pickT rfl rfl rfl) ?_
              refine JS_nil ?_
              exact F_mid ⟨rfl, rfl, rfl, rfl, rfl, rfl, (congrArg (fun b => some (Value.bool b)) (by unfold rbB; first | (rw [hb35]; rfl) | (rw [hb35, hb39]; rfl) | (rw [hb35, hb39, hb43]; rfl))), trivial⟩ (List.Sublist.refl _) (fun _ h => h)
            ·
              refine JS_g1 rfl rfl ?_
              refine JS_q (q_move rfl) ?_
              refine JS_g1 rfl rfl ?_
              refine JS_q (q_bin rfl rfl rfl) ?_
              refine JS_q (q_pickF rfl rfl rfl) ?_
              refine JS_q (q_move rfl) ?_
              refine JS_split (t := 43) rfl (fun hb43 => ?_) (fun hb43 => ?_)
              ·
                refine JS_g0 rfl rfl rfl ?_
                refine JS_g0 rfl rfl rfl ?_
                refine JS_q (q_pickT rfl rfl rfl) ?_
                refine JS_nil ?_
                exact F_mid ⟨rfl, rfl, rfl, rfl, rfl, rfl, (congrArg (fun b => some (Value.bool b)) (by unfold rbB; first | (rw [hb35]; rfl) | (rw [hb35, hb39]; rfl) | (rw [hb35, hb39, hb43]; rfl))), trivial⟩ (List.Sublist.refl _) (fun _ h => h)
              ·
                refine JS_g1 rfl rfl ?_
                refine JS_q (q_move rfl) ?_
                refine JS_g1 rfl rfl ?_
                refine JS_q (q_bin rfl rfl rfl) ?_
                refine JS_q (q_pickF rfl rfl rfl) ?_
                refine JS_nil ?_
                exact F_mid ⟨rfl, rfl, rfl, rfl, rfl, rfl, (congrArg (fun b => some (Value.bool b)) (by unfold rbB; first | (rw [hb35]; rfl) | (rw [hb35, hb39]; rfl) | (rw [hb35, hb39, hb43]; rfl))), trivial⟩ (List.Sublist.refl _) (fun _ h => h)
        ·
          simp only [List.cons_append, List.nil_append]
          refine J_cond rfl (fun hc => ?_) (fun hc => ?_)
          ·
            skip
            refine J_region ?_
            refine JS_q (q_assign rfl) ?_
            refine JS_nil ?_
            exact F_mid ⟨rfl, rfl, rfl, rfl, rfl, (congrArg (fun z : Int => some (Value.int .i64 z)) (by unfold w0Z; rw [if_pos hc])), trivial⟩ (List.Sublist.refl _) (fun _ h => h)
          ·
            have hc5 := hc
            refine J_seq ?_
            refine J_region ?_
            refine JS_q (q_move rfl) ?_
            refine JS_q (q_lenSl rfl sl_22) ?_
            refine JS_q (q_bin rfl rfl rfl) ?_
            refine JS_nil ?_
            refine F_then ?_
            refine J_cond rfl (fun hc => ?_) (fun hc => ?_)
            ·
              refine J_region ?_
              refine JS_q (q_assign rfl) ?_
              refine JS_nil ?_
              exact F_mid ⟨rfl, rfl, rfl, rfl, rfl, (congrArg (fun z : Int => some (Value.int .i64 z)) (by unfold w0Z; rw [if_neg (by rw [hc5]; decide), if_pos (by rw [hn]; exact hc)])), trivial⟩ (List.Sublist.refl _) (fun _ h => h)
            ·
              refine J_skip ?_
              exact F_mid ⟨rfl, rfl, rfl, rfl, rfl, (congrArg (fun z : Int => some (Value.int .i64 z)) (by unfold w0Z; rw [if_neg (by rw [hc5]; decide), if_neg (by rw [hn, hc]; decide)])), trivial⟩ (List.Sublist.refl _) (fun _ h => h)
      ·
        simp only [List.cons_append, List.nil_append]
        refine J_seq ?_
        refine J_region ?_
        refine JS_q (q_assign rfl) ?_
        refine JS_nil ?_
        refine F_then ?_
        refine J_midKX (ι := RpE l s r) [(7, _), (8, _)] (fun e => [(9, .int .i64 ((playE l s r))), (10, e.v)]) (fun e => e.ob) (fun e F => True) ⟨rfl, rfl, trivial⟩ ?_ ?_
        ·
          refine J_seq ?_
          refine J_region ?_
          refine JS_q (q_assign rfl) ?_
          refine JS_nil ?_
          refine F_then ?_
          refine J_block ?_
          refine J_loopS (ι := RpJ l s r) [(0, _), (2, _), (7, _), (8, _)] (fun i => [(1, .int .i64 (seenL l s (r.take i.i))), (9, .int .i64 ((w0Z l s r.length))), (10, i.v), (11, .int .i64 ((i.i : Nat) : Int))]) (fun i => i.ob) (fun i F => True) (fun i => r.length - i.i) (⟨0, _, [], Nat.zero_le _, .nil, fun x hx => by cases hx⟩) ⟨rfl, rfl, rfl, rfl, trivial⟩ ⟨rfl, rfl, rfl, rfl, trivial⟩ (List.Sublist.refl _) (fun _ _ => trivial) (fun i => ?_)
          simp only [List.cons_append, List.nil_append]
          have hi := i.le
          refine J_seq ?_
          refine J_midK [(0, _), (1, _), (2, _), (7, _), (8, _), (9, _), (10, _), (11, _)] [(57, .bool ((decide ((i.i : Int) < (n : Int)) && decide (w0Z l s r.length = 0))))] ⟨rfl, rfl, rfl, rfl, rfl, rfl, rfl, rfl, trivial⟩ ?_ ?_
          ·
            refine J_region ?_
            refine JS_q (q_move rfl) ?_
            refine JS_q (q_move rfl) ?_
            refine JS_q (q_lenSl rfl sl_22) ?_
            refine JS_q (q_bin rfl rfl rfl) ?_
            refine JS_q (q_move rfl) ?_
            refine JS_split (t := 54) rfl (fun hb54 => ?_) (fun hb54 => ?_)
            ·
              refine JS_g1 rfl rfl ?_
              refine JS_q (q_move rfl) ?_
              refine JS_g1 rfl rfl ?_
              refine JS_q (q_bin rfl rfl rfl) ?_
              refine JS_q (q_pickT rfl rfl rfl) ?_
              refine JS_nil ?_
              exact F_mid ⟨rfl, rfl, rfl, rfl, rfl, rfl, rfl, rfl, (congrArg (fun b => some (Value.bool b)) (by first | (rw [hb54, Bool.true_and, Bool.eq_iff_iff]; simp) | (rw [hb54]; rfl))), trivial⟩ (List.Sublist.refl _) (fun _ h => h)
            ·
              refine JS_g0 rfl rfl rfl ?_
              refine JS_g0 rfl rfl rfl ?_
              refine JS_q (q_pickF rfl rfl rfl) ?_
              refine JS_nil ?_
              exact F_mid ⟨rfl, rfl, rfl, rfl, rfl, rfl, rfl, rfl, (congrArg (fun b => some (Value.bool b)) (by first | (rw [hb54, Bool.true_and, Bool.eq_iff_iff]; simp) | (rw [hb54]; rfl))), trivial⟩ (List.Sublist.refl _) (fun _ h => h)
          ·
            simp only [List.cons_append, List.nil_append]
            refine J_cond rfl (fun hc => ?_) (fun hc => ?_)
            ·
              rw [Bool.and_eq_true] at hc
              have hlt : i.i < r.length := by have := of_decide_eq_true hc.1; omega
              have hw0 : w0Z l s r.length = 0 := of_decide_eq_true hc.2
              have hem := el_mem hlt
              obtain ⟨hl0, hs0⟩ := w0_ok hw0
              refine J_skip ?_
              refine F_then ?_
              refine J_seq ?_
              refine J_block ?_
              refine J_seq ?_
              refine J_midK [(0, _), (1, _), (2, _), (7, _), (8, _), (9, _), (10, _), (11, _)] [(71, .bool ((farB (el r i.i))))] ⟨rfl, rfl, rfl, rfl, rfl, rfl, rfl, rfl, trivial⟩ ?_ ?_
              ·
                refine J_region ?_
                refine JS_q (q_move rfl) ?_
                refine JS_q (q_move rfl) ?_
                refine JS_q (q_idxQ (n := n) (i.i) (fun F ⟨⟨⟨hGl, hR⟩, h30⟩, _⟩ => hR) rfl rfl sl_22 ty_3 (by omega)) ?_
                refine JS_q (q_loadQ (n := n) ((i.i) * 1) (fun F ⟨⟨⟨hGl, hR⟩, h30⟩, _⟩ => hR) (by omega) rfl ty_3 (map_el (f := i64c) (l := r) (by omega))) ?_
                refine JS_q (q_bin rfl rfl rfl) ?_
                refine JS_q (q_move rfl) ?_
                refine JS_split (t := 65) rfl (fun hb65 => ?_) (fun hb65 => ?_)
                ·
                  refine JS_g0 rfl rfl rfl ?_
                  refine JS_g0 rfl rfl rfl ?_
                  refine JS_g0 rfl rfl rfl ?_
                  refine JS_g0 rfl rfl rfl ?_
                  refine JS_g0 rfl rfl rfl ?_
                  refine JS_q (q_pickT rfl rfl rfl) ?_
                  refine JS_nil ?_
                  exact F_mid ⟨rfl, rfl, rfl, rfl, rfl, rfl, rfl, rfl, (congrArg (fun b => some (Value.bool b)) (by unfold farB; rw [Bool.eq_iff_iff]; simp at hb65 ⊢; omega)), trivial⟩ (List.Sublist.refl _) (fun _ h => h)
                ·
                  refine JS_g1 rfl rfl ?_
                  refine JS_q (q_move rfl) ?_
                  refine JS_g1 rfl rfl ?_
                  refine JS_q (q_move rfl) ?_
                  refine JS_g1 rfl rfl ?_
                  refine JS_q (q_idxQ (n := n) (i.i) (fun F ⟨⟨⟨hGl, hR⟩, h30⟩, _⟩ => hR) rfl rfl sl_22 ty_3 (by omega)) ?_
                  refine JS_g1 rfl rfl ?_
                  refine JS_q (q_loadQ (n := n) ((i.i) * 1) (fun F ⟨⟨⟨hGl, hR⟩, h30⟩, _⟩ => hR) (by omega) rfl ty_3 (map_el (f := i64c) (l := r) (by omega))) ?_
                  refine JS_g1 rfl rfl ?_
                  refine JS_q (q_bin rfl rfl rfl) ?_
                  refine JS_q (q_pickF rfl rfl rfl) ?_
                  refine JS_nil ?_
                  exact F_mid ⟨rfl, rfl, rfl, rfl, rfl, rfl, rfl, rfl, (congrArg (fun b => some (Value.bool b)) (by unfold farB; rw [Bool.eq_iff_iff]; simp at hb65 ⊢; omega)), trivial⟩ (List.Sublist.refl _) (fun _ h => h)
              ·
                simp only [List.cons_append, List.nil_append]
                refine J_cond rfl (fun hc => ?_) (fun hc => ?_)
                ·
                  have hfr := hc
                  refine J_seq ?_
                  refine J_region ?_
                  refine JS_q (q_assign rfl) ?_
                  refine JS_nil ?_
                  refine F_then ?_
                  refine J_exit ?_
                  repeat (first | refine F_then_exit ?_ | refine F_block_miss (by rfl) ?_)
                  refine F_block_hit ?_
                  exact F_midx (i.brk hw0 hem hfr) ⟨rfl, rfl, (congrArg (fun z : Int => some (Value.int .i64 z)) (RpJ.e_far hw0 hem hfr)), rfl, trivial⟩ (List.Sublist.refl _) (fun F ⟨⟨⟨hGl, hR⟩, h30⟩, _⟩ => ⟨⟨⟨hGl, hR⟩, h30⟩, trivial⟩)
                ·
                  have hfr := hc
                  refine J_skip ?_
                  refine F_then ?_
                  refine J_seq ?_
                  refine J_region ?_
                  refine JS_q (q_move rfl) ?_
                  refine JS_q (q_move rfl) ?_
                  refine JS_q (q_move rfl) ?_
                  refine JS_q (q_move rfl) ?_
                  refine JS_q (q_idxQ (n := n) (i.i) (fun F ⟨⟨⟨hGl, hR⟩, h30⟩, _⟩ => hR) rfl rfl sl_22 ty_3 (by omega)) ?_
                  refine JS_q (q_loadQ (n := n) ((i.i) * 1) (fun F ⟨⟨⟨hGl, hR⟩, h30⟩, _⟩ => hR) (by omega) rfl ty_3 (map_el (f := i64c) (l := r) (by omega))) ?_
                  refine JS_call rfl (fun w F hF ⟨⟨⟨hGl, hR⟩, h30⟩, _⟩ => lookS_g hF hl0 (far_in hfr)) (fun _ => ?_)
                  refine JS_q (q_assign rfl) ?_
                  refine JS_nil ?_
                  refine F_then ?_
                  refine J_region ?_
                  refine JS_q (q_move rfl) ?_
                  refine JS_q (q_move rfl) ?_
                  refine JS_buildSliceF rfl (slB_u sl_22) ty_3 z_3 rfl rfl (fun b81 => ?_)
                  refine JS_app (bs1 := []) (ob := i.ob) (k := 1) (sz := 1) (news := [.int .i64 ((seeZ l (seenL l s (r.take i.i)) (el r i.i)))]) rfl rfl sl_22 ty_3 z_3 rfl by_3 i.hr (Src.row (off := 0) (fun F ⟨⟨⟨⟨⟨hGl, hR⟩, h30⟩, _⟩, _⟩, hs81⟩ => hs81) (fun j v hv => by rw [Nat.zero_add]; show ([.int .i64 ((seeZ l (seenL l s (r.take i.i)) (el r i.i)))].toArray)[j]? = some v; rw [List.getElem?_toArray]; exact hv) rfl) (by omega) (by omega) (oneAll_mem ⟨rfl, trivial⟩) (fun v82 ob82 hr82 => ?_)
                  refine JS_q (q_assign rfl) ?_
                  refine JS_nil ?_
                  refine F_block ?_
                  refine F_then ?_
                  refine J_region ?_
                  refine JS_q (q_move rfl) ?_
                  refine JS_q (q_add rfl rfl (by omega)) ?_
                  refine JS_q (q_assign rfl) ?_
                  refine JS_nil ?_
                  exact F_again (⟨i.i + 1, v82, ob82, hlt, by rw [playL_snoc hlt, List.map_append]; exact hr82, fun x hx => by
                        rw [take_el hlt] at hx
                        rcases List.mem_append.1 hx with hx | hx
                        · exact i.far x hx
                        · rw [List.mem_singleton.1 hx]; exact hfr⟩) (by show r.length - (i.i + 1) < r.length - i.i; omega) ⟨rfl, rfl, rfl, rfl, (congrArg (fun z : Int => some (Value.int .i64 z)) ((seenL_snoc hlt).symm)), rfl, rfl, rfl, trivial⟩ (List.Sublist.refl _) (fun F h => ⟨h.1.1.1, trivial⟩)
            ·
              have hge : w0Z l s r.length = 0 → i.i = r.length := fun h => by rw [decide_eq_true h, Bool.and_true] at hc; have := of_decide_eq_false hc; omega
              refine J_exit ?_
              repeat (first | refine F_then_exit ?_ | refine F_block_miss (by rfl) ?_)
              refine F_block_hit ?_
              exact F_midx (i.stop hge) ⟨rfl, rfl, (congrArg (fun z : Int => some (Value.int .i64 z)) (i.e_stop hge)), rfl, trivial⟩ (List.Sublist.refl _) (fun F ⟨⟨⟨hGl, hR⟩, h30⟩, _⟩ => ⟨⟨⟨hGl, hR⟩, h30⟩, trivial⟩)
        · intro e
          simp only [List.cons_append, List.nil_append]
          refine J_seq ?_
          refine J_seq ?_
          refine J_region ?_
          refine JS_q (q_move rfl) ?_
          refine JS_q (q_bin rfl rfl rfl) ?_
          refine JS_nil ?_
          refine F_then ?_
          refine J_cond rfl (fun hc => ?_) (fun hc => ?_)
          ·
            have he : playE l s r ≠ 0 := bne_iff_ne.1 hc
            refine J_seq ?_
            refine J_region ?_
            refine JS_q (q_move rfl) ?_
            refine JS_q (q_lenSl rfl sl_22) ?_
            have e30 : c30.n = 0 := by rw [← n30, if_neg he]; rfl
            refine JS_q (q_bin (v := .bool true) rfl rfl (by rw [e30]; rfl)) ?_
            refine JS_q (q_move rfl) ?_
            refine JS_g1 rfl rfl ?_
            refine JS_q (q_move rfl) ?_
            refine JS_g1 rfl rfl ?_
            refine JS_q (q_move rfl) ?_
            refine JS_g1 rfl rfl ?_
            refine JS_q (q_bin (v := .bool true) rfl rfl (by show some (Value.bool (playE l s r == playE l s r)) = _; rw [beq_self_eq_true])) ?_
            refine JS_q (q_pickT rfl rfl rfl) ?_
            refine JS_q (q_move rfl) ?_
            refine JS_g1 rfl rfl ?_
            refine JS_call rfl (fun w F hF ⟨⟨⟨hGl, hR⟩, h30⟩, _⟩ => awake9_g hF hGl) (fun _ => ?_)
            refine JS_q (q_pickT rfl rfl rfl) ?_
            refine JS_q (q_assign rfl) ?_
            refine JS_nil ?_
            refine F_then ?_
            refine J_ret ?_
            exact F_ret1 (()) rfl (.tmp rfl .nil) (rfl) (fun F ⟨⟨⟨⟨hGl, hR⟩, h30⟩, _⟩, _⟩ => trivial)
          ·
            have he : playE l s r = 0 := bne_eq_false_iff_eq.1 hc
            refine J_skip ?_
            refine F_then ?_
            refine J_seq ?_
            obtain ⟨rr, hv, hrn, hrc, hfix⟩ := OwnRow.fix (w0 := w) (F0 := F) (bs1 := []) (G := _) e.hr
            refine J_fix hfix ?_
            rw [hv]
            refine J_region ?_
            refine JS_q (q_move rfl) ?_
            refine JS_q (q_bin (v := .bool true) rfl rfl (by rw [he]; rfl)) ?_
            refine JS_q (q_move rfl) ?_
            refine JS_g1 rfl rfl ?_
            refine JS_q (q_move rfl) ?_
            refine JS_g1 rfl rfl ?_
            refine JS_q (q_move rfl) ?_
            refine JS_g1 rfl rfl ?_
            refine JS_call rfl (fun w F hF ⟨⟨⟨⟨hGl, hR⟩, h30⟩, _⟩, hrow⟩ => (by have := rsameInts_g (a := playL l s r) (b := playL l s r) hF (by rw [if_pos he] at h30; exact h30) ⟨by rw [hrn, ← e.h he]; exact hrow, by rw [← e.h he, e.hl, hrn], by rw [hrn]; exact hrc⟩ (by rw [playL_len]; omega); rwa [decide_eq_true rfl] at this)) (fun _ => ?_)
            refine JS_q (q_pickT rfl rfl rfl) ?_
            refine JS_q (q_move rfl) ?_
            refine JS_g1 rfl rfl ?_
            refine JS_call rfl (fun w F hF ⟨⟨⟨⟨⟨hGl, hR⟩, h30⟩, _⟩, hrow⟩, _⟩ => awake9_g hF hGl) (fun _ => ?_)
            refine JS_q (q_pickT rfl rfl rfl) ?_
            refine JS_q (q_assign rfl) ?_
            refine JS_nil ?_
            refine F_then ?_
            refine J_ret ?_
            exact F_ret1 (()) rfl (.tmp rfl .nil) (rfl) (fun F ⟨⟨⟨⟨⟨⟨hGl, hR⟩, h30⟩, _⟩, hrow⟩, _⟩, _⟩ => trivial)
end Go.Proofs.YtfdgciidfohhgaaGreatDoor
