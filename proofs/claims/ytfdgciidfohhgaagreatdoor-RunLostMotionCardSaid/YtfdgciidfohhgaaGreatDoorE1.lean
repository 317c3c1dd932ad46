/-
  An evaluator of programs on given arguments, and that it is right.
-/
import Derived.Laws.CopyRow
import Derived.Deep.AppendSrc
import Derived.Deep.Upon
import Derived.Lib.UnsafeStr
import Derived.Laws.AppendOwn
import Derived.Lib.ConvBytes
import Derived.Laws.RangeString
import Derived.Test.YtfdgciidfohhgaaGreatDoorE0
set_option linter.all false



namespace Go.Ev
open Go.RowKit
theorem Po.eq_refl (p : Po) : Po.eq p p = true := by
  induction p with
  | h => rfl
  | o p ih => exact ih
  | i p ih => exact ih

noncomputable def upB (β : Be) (n : Po) (p : Pl) : Be := fun q => if Po.eq q n then some p else β q
theorem upB_eq (β : Be) (n : Po) (p : Pl) : upB β n p n = some p := by unfold upB; rw [Po.eq_refl]; rfl
theorem upB_ne (β : Be) {n q : Po} (p : Pl) (h : q ≠ n) : upB β n p q = β q := by
  unfold upB; rw [if_neg]; intro e; exact h (Po.eq_eq e)
theorem upB_le {β : Be} {n : Po} (p : Pl) (h : β n = none) : Be.le β (upB β n p) := fun q x hx => by
  by_cases e : q = n
  · subst e; rw [h] at hx; cases hx
  · rw [upB_ne β p e]; exact hx
section
variable {P : Program} {β : Be} {h : Tr B} {n : Po} {w w' : World}

structure Near (w w' : World) : Prop where
  os : w'.os = w.os
  tape : w'.tape = w.tape
  out : w'.output = w.output
  drawn : w.drawn ≤ w'.drawn
theorem Near.refl (w : World) : Near w w := ⟨rfl, rfl, rfl, Nat.le_refl _⟩

theorem Mv.new (k : Ok β h n w) (lv l0 : Nat) {x : O} {obj : Obj} {sz : Nat} (hll : l0 ≤ lv) (hw : w'.heap = w.heap.push obj) (hn : Near w w') (ho : Oo β ⟨w.heap.size, 0, sz⟩ obj x) :
    Mv lv β h n w (upB β n ⟨w.heap.size, 0, sz⟩) (h.put (some ⟨x, l0⟩) n) n.s w' := by
  have hle := upB_le (β := β) (n := n) ⟨w.heap.size, 0, sz⟩ (k.top n (Nat.le_refl _))
  have hget : ∀ q b, (h.put (some ⟨x, l0⟩) n).get q = some b → (q = n ∧ b = ⟨x, l0⟩) ∨ (q ≠ n ∧ h.get q = some b) := fun q b hb => by
    rcases Tr.get_put _ hb with ⟨e, e2⟩ | ⟨e, e2⟩
    · exact .inl ⟨e, (Option.some.inj e2).symm⟩
    · exact .inr ⟨e, e2⟩
  have hp : ∀ q b p, q ≠ n → h.get q = some b → upB β n ⟨w.heap.size, 0, sz⟩ q = some p → β q = some p ∧ p.blk < w.heap.size := fun q b p hne hb hp => by
    rw [upB_ne β _ hne] at hp
    exact ⟨hp, k.lt hb hp⟩
  refine ⟨by rw [Po.n_s]; omega, fun q hq => upB_ne β _ (by rintro rfl; omega), ⟨fun q b hb => ?_, fun q q' b b' p p' hb hb' g g' e => ?_, fun q hq => ?_⟩, hn.os, hn.tape, hn.out, hn.drawn, by rw [hw]; simp, fun b hb _ => ?_, fun q c p hc g hlt => ?_, fun K hK hh q c hc => ?_⟩
  · rcases hget q b hb with ⟨rfl, rfl⟩ | ⟨hne, hb⟩
    · exact ⟨_, obj, upB_eq _ _ _, by rw [hw]; simp, ho.le hle⟩
    · obtain ⟨p, o, k1, k2, k3⟩ := k.ob q b hb
      have hlt := (Array.getElem?_eq_some_iff.1 k2).1
      exact ⟨p, o, hle q p k1, by rw [hw, Array.getElem?_push, if_neg (by omega)]; exact k2, k3.le hle⟩
  · rcases hget q b hb with ⟨rfl, rfl⟩ | ⟨hne, hb⟩ <;> rcases hget q' b' hb' with ⟨rfl, rfl⟩ | ⟨hne', hb'⟩
    · rfl
    · rw [upB_eq] at g; cases g
      have := (hp q' b' p' hne' hb' g').2
      simp only at e; omega
    · rw [upB_eq] at g'; cases g'
      have := (hp q b p hne (by assumption) g).2
      simp only at e; omega
    · exact k.inj q q' b b' p p' hb hb' (hp q b p hne hb g).1 (hp q' b' p' hne' hb' g').1 e
  · rw [Po.n_s] at hq
    rw [upB_ne β _ (by rintro rfl; omega)]
    exact k.top q (by omega)
  · rw [hw, Array.getElem?_push, if_neg (by omega)]
  · rcases hget q c hc with ⟨rfl, rfl⟩ | ⟨hne, hb⟩
    · rw [upB_eq] at g; cases g; simp only at hlt; omega
    · exact ⟨q, c, p, hb, (hp q c p hne hb g).1, rfl, id⟩
  · rcases hget q c hc with ⟨rfl, rfl⟩ | ⟨_, hb⟩
    · exact Nat.le_trans hll hK
    · exact hh q c hb

theorem Mv.put (k : Ok β h n w) {lv : Nat} {q : Po} {b : B} {p : Pl} (hq : h.get q = some b) (hp : β q = some p) (hlv : lv ≤ b.lv) {x : O} {obj : Obj} (hw : w'.heap = w.heap.setIfInBounds p.blk obj) (hn : Near w w') (ho : Oo β p obj x) :
    Mv lv β h n w β (h.put (some ⟨x, b.lv⟩) q) n w' := by
  have hlt := k.lt hq hp
  have hget : ∀ q' b', (h.put (some ⟨x, b.lv⟩) q).get q' = some b' → (q' = q ∧ b' = ⟨x, b.lv⟩) ∨ (q' ≠ q ∧ h.get q' = some b') := fun q' b' hb => by
    rcases Tr.get_put _ hb with ⟨e, e2⟩ | ⟨e, e2⟩
    · exact .inl ⟨e, (Option.some.inj e2).symm⟩
    · exact .inr ⟨e, e2⟩
  have hex : ∀ q' b', (h.put (some ⟨x, b.lv⟩) q).get q' = some b' → ∃ b0, h.get q' = some b0 ∧ b0.lv = b'.lv := fun q' b' hb => by
    rcases hget q' b' hb with ⟨rfl, rfl⟩ | ⟨_, hb⟩
    · exact ⟨b, hq, rfl⟩
    · exact ⟨b', hb, rfl⟩
  refine ⟨Nat.le_refl _, fun _ _ => rfl, ⟨fun q' b' hb => ?_, fun q1 q2 b1 b2 p1 p2 hb1 hb2 g1 g2 e => ?_, k.top⟩, hn.os, hn.tape, hn.out, hn.drawn, by rw [hw]; simp, fun b1 hb1 hh => ?_, fun q' c p' hc g hlt => ?_, fun K hK hh q' c hc => ?_⟩
  · rcases hget q' b' hb with ⟨rfl, rfl⟩ | ⟨hne, hb⟩
    · exact ⟨p, obj, hp, by rw [hw]; simp [hlt], ho⟩
    · obtain ⟨p', o, k1, k2, k3⟩ := k.ob q' b' hb
      have hne2 : p.blk ≠ p'.blk := fun e => hne (k.inj q' q b' b p' p hb hq k1 hp e.symm)
      exact ⟨p', o, k1, by rw [hw, Array.getElem?_setIfInBounds_ne hne2]; exact k2, k3⟩
  · obtain ⟨b1', e1, _⟩ := hex q1 b1 hb1
    obtain ⟨b2', e2, _⟩ := hex q2 b2 hb2
    exact k.inj q1 q2 b1' b2' p1 p2 e1 e2 g1 g2 e
  · rw [hw, Array.getElem?_setIfInBounds_ne (hh q b p hq hlv hp)]
  · obtain ⟨b0, e1, e2⟩ := hex q' c hc
    exact ⟨q', b0, p', e1, g, rfl, fun h => by rw [e2]; exact h⟩
  · obtain ⟨b0, e1, e2⟩ := hex q' c hc
    rw [← e2]; exact hh q' b0 e1

theorem Mv.drop (k : Ok β h n w) {lv : Nat} (q : Po) : Mv lv β h n w β (h.put none q) n w := by
  have hget : ∀ q' b', (h.put none q).get q' = some b' → h.get q' = some b' := fun q' b' hb => by
    rcases Tr.get_put _ hb with ⟨_, e2⟩ | ⟨_, e2⟩
    · cases e2
    · exact e2
  exact ⟨Nat.le_refl _, fun _ _ => rfl, ⟨fun q' b' hb => k.ob q' b' (hget q' b' hb), fun q1 q2 b1 b2 p1 p2 hb1 hb2 => k.inj q1 q2 b1 b2 p1 p2 (hget _ _ hb1) (hget _ _ hb2), k.top⟩, rfl, rfl, rfl, Nat.le_refl _, Nat.le_refl _, fun _ _ _ => rfl,
    fun q' c p' hc g hlt => ⟨q', c, p', hget _ _ hc, g, rfl, id⟩, fun K _ hh q c hc => hh q c (hget _ _ hc)⟩
theorem Ok.sub (k : Ok β h n w) {h' : Tr B} (hs : ∀ q b, h'.get q = some b → h.get q = some b) : Ok β h' n w :=
  ⟨fun q b hb => k.ob q b (hs q b hb), fun q1 q2 b1 b2 p1 p2 hb1 hb2 => k.inj q1 q2 b1 b2 p1 p2 (hs _ _ hb1) (hs _ _ hb2), k.top⟩
theorem Ok.drew (k : Ok β h n w) : Ok β h n w.drew := ⟨k.ob, k.inj, k.top⟩

theorem Mv.near (k : Ok β h n w) {lv : Nat} (hw : w'.heap = w.heap) (hn : Near w w') : Mv lv β h n w β h n w' :=
  ⟨Nat.le_refl _, fun _ _ => rfl, ⟨fun q b hb => by rw [hw]; exact k.ob q b hb, k.inj, k.top⟩, hn.os, hn.tape, hn.out, hn.drawn, by rw [hw]; exact Nat.le_refl _, fun _ _ _ => by rw [hw], fun q c p h1 h2 _ => ⟨q, c, p, h1, h2, rfl, id⟩, fun _ _ hh => hh⟩
end
section
variable {P : Program} {β : Be} {c : Lc} {st : List A} {m : Tr A} {ρ : Operand → Value} {h : Tr B} {n : Po} {w : World}
theorem lit_ok {sz : Nat} : ∀ {ps : List (Nat × A)} {pv : List (Nat × Value)} {k : Nat} {cs : List A}, lit sz ps k = some cs → pv.map (·.1) = ps.map (·.1) → Vs β (ps.map (·.2)) = some (pv.map (·.2)) → (∀ p ∈ ps, ∀ u, p.2 = .k u → vone u = true) →
    ∃ vs, Vs β cs = some vs ∧ ∀ (cur : Array Value), k * sz + vs.length = cur.size → Instr.fill (fun i => some (i * sz, sz)) cur pv = some (cur.toList.take (k * sz) ++ vs).toArray
  | [], pv, k, cs, h, h1, h2, _ => by
    cases Option.some.inj h
    cases pv with
    | nil => exact ⟨[], rfl, fun cur hc => by simp [Instr.fill, List.take_of_length_le, ← hc]⟩
    | cons _ _ => simp at h1
  | p :: ps, pv, k, cs, h, h1, h2, hk => by
    obtain ⟨g1, h⟩ := gu_some (show gu (Nat.beq p.1 k) (gu (Nat.beq p.2.cells.length sz) (bd (lit sz ps (Nat.succ k)) fun l => some (p.2.cells ++ l))) = some cs from h)
    obtain ⟨g2, h⟩ := gu_some h
    obtain ⟨l, g3, h⟩ := bd_some h
    cases Option.some.inj h
    have g1 := Nat.eq_of_beq_eq_true g1
    have g2 := Nat.eq_of_beq_eq_true g2
    cases pv with
    | nil => simp at h1
    | cons pv0 pv =>
      simp only [List.map_cons, List.cons.injEq] at h1
      rw [List.map_cons, List.map_cons] at h2
      obtain ⟨v, rr, k1, k2, k3⟩ := Vs_cons h2
      injection k3 with k3 k4
      subst k3; subst k4
      have hcells := cells_ok k1 (hk p (by simp))
      have hsz : pv0.2.cells.size = sz := by rw [← g2, ← Vs_len hcells]; simp
      obtain ⟨vs, r1, r2⟩ := lit_ok g3 h1.2 k2 fun x hx => hk x (by simp [hx])
      refine ⟨pv0.2.cells.toList ++ vs, Vs_app hcells r1, fun cur hc => ?_⟩
      rw [List.length_append] at hc
      have hl : pv0.2.cells.toList.length = sz := by simpa using hsz
      have hmul : Nat.succ k * sz = k * sz + sz := by rw [Nat.succ_mul]
      unfold Instr.fill
      have e1 : pv0.1 = k := by rw [h1.1, g1]
      simp only [e1]
      rw [if_neg (by simp [hsz]; omega)]
      have e := foldl_set pv0.2.cells.toList 0 (k * sz) cur (by simp only [hl]; omega)
      have e0 : pv0.2.cells.zipIdx.foldl (fun cs (x : Value × Nat) => cs.setIfInBounds (k * sz + x.2) x.1) cur = (pv0.2.cells.toList.zipIdx 0).foldl (fun cs (x : Value × Nat) => cs.setIfInBounds (k * sz + x.2) x.1) cur := by
        rw [← Array.foldl_toList]; simp
      rw [e0, e, hl, Nat.add_zero]
      have h3 := r2 (cur.toList.take (k * sz) ++ pv0.2.cells.toList ++ cur.toList.drop (k * sz + sz)).toArray (by rw [hmul]; simp [hsz]; omega)
      rw [h3]
      congr 2
      rw [hmul, ← List.append_assoc]
      congr 1
      have hl2 : (cur.toList.take (k * sz) ++ pv0.2.cells.toList).length = k * sz + sz := by
        rw [List.length_append, hl, List.length_take]; simp; omega
      show List.take (k * sz + sz) (_ ++ _) = _
      rw [List.take_append_of_le_length (by rw [hl2]; exact Nat.le_refl _), ← hl2, List.take_length]
theorem rep_len (z : List A) : ∀ n, (rep z n).length = n * z.length
  | 0 => by show 0 = _; simp
  | n + 1 => by
    show (z ++ rep z n).length = _
    rw [List.length_append, rep_len z n, Nat.succ_mul]; omega
theorem rep_Vs {z : List A} {vs : List Value} (h : Vs β z = some vs) : ∀ n, ∃ us, Vs β (rep z n) = some us ∧ us.length = n * vs.length ∧ ∀ i, i < n * vs.length → us[i]? = vs[i % vs.length]?
  | 0 => ⟨[], rfl, by simp, fun i hi => by simp at hi⟩
  | n + 1 => by
    obtain ⟨us, h1, h2, h3⟩ := rep_Vs h n
    refine ⟨vs ++ us, Vs_app h h1, by rw [List.length_append, h2, Nat.succ_mul]; omega, fun i hi => ?_⟩
    rw [Nat.succ_mul] at hi
    by_cases hlt : i < vs.length
    · rw [List.getElem?_append_left hlt, Nat.mod_eq_of_lt hlt]
    · rw [List.getElem?_append_right (by omega), h3 _ (by omega)]
      congr 1
      rw [← Nat.mod_eq_sub_mod (by omega)]

def Ne1 (P : Program) (β : Be) (h : Tr B) (n : Po) (w : World) (o : Op) (ρ : Operand → Value) (q : O × (Po → A)) : Prop :=
  ∃ obj sz v, (∀ d ty pos aft gd, (execOp ρ ⟨d, o, ty, pos, aft, gd⟩).run P w = .ok (.value v) (w.alloc obj)) ∧ Oo β ⟨w.heap.size, 0, sz⟩ obj q.1 ∧ ∀ β' : Be, β' n = some ⟨w.heap.size, 0, sz⟩ → V β' (q.2 n) = some v
theorem cellsO {vs : List Value} {l : List A} {T : TypeId} (hl : Vs β l = some vs) (b : Nat) : Oo β ⟨b, 0, vs.length⟩ (.cells vs.toArray T) (.c l T false) :=
  ⟨vs.toArray, vs, rfl, by simp, hl, fun i v hv => by simpa using hv, by simp [Vs_len hl], fun _ => ⟨rfl, (Vs_len hl).symm⟩, rfl⟩
theorem ne_ok {o : Op} {g : Bx (List A → Tr A → Option (O × (Po → A)))} {q : O × (Po → A)} (hg : neD P c o = some g) (ha : g.f st m = some q)
    (hρ : ∀ z ∈ o.operands, ∀ a, ev c z st m = some a → V β a = some (ρ z)) : Ne1 P β h n w o ρ q := by
  unfold neD at hg
  split at hg
  · rename_i T
    cases Option.some.inj hg
    obtain ⟨z, h1, ha⟩ := bd_some ha
    cases Option.some.inj ha
    obtain ⟨i, v, k1, k2, k3⟩ := zeroB_ok (β := β) h1
    refine ⟨.cells v.cells T, v.cells.toList.length, .pointer (some ⟨w.heap.size, 0, none⟩), fun d ty pos aft gd => ?_, ?_, fun β' hb => ?_⟩
    · have ez : (zeroValue T).run P w = .ok v w := by simp [zeroValue, typeInfo, k1, k2]
      simp only [execOp, Instr.alloc, Sem.run_bind, ez, Result.andThen_ok, Sem.run_pure, newVar, newRow, run_newObj]
      rfl
    · exact cellsO k3 _
    · show (β' n).map _ = _; rw [hb]; rfl
  · rename_i T x
    cases Option.some.inj hg
    obtain ⟨a, h1, ha⟩ := bd_some ha
    obtain ⟨h2, ha⟩ := gu_some ha
    cases Option.some.inj ha
    have hc := cells_ok (hρ x (by simp [Op.operands]) _ h1) (A.ok_k h2)
    refine ⟨.cells (ρ x).cells T, (ρ x).cells.toList.length, .pointer (some ⟨w.heap.size, 0, none⟩), fun d ty pos aft gd => ?_, ?_, fun β' hb => ?_⟩
    · simp only [execOp, Instr.box, Sem.run_bind, Result.andThen_ok, Sem.run_pure, newVar, newRow, run_newObj]
      rfl
    · exact cellsO hc _
    · show (β' n).map _ = _; rw [hb]; rfl
  · rename_i T k ps
    cases Option.some.inj hg
    obtain ⟨q0, h1, ha⟩ := bd_some ha
    obtain ⟨h0, ha⟩ := gu_some ha
    obtain ⟨l, h2, ha⟩ := bd_some ha
    obtain ⟨h3, ha⟩ := gu_some ha
    obtain ⟨cs, h4, ha⟩ := bd_some ha
    obtain ⟨h5, ha⟩ := gu_some ha
    obtain ⟨h6, ha⟩ := gu_some ha
    cases Option.some.inj ha
    obtain ⟨p1, p2⟩ := parts_ok (β := β) (ρ := ρ) h2 (fun p hp => hρ p.2 (by simp only [Op.operands, List.mem_toArray, List.mem_map]; exact ⟨p, hp, rfl⟩))
    rw [List.all_eq_true] at h3
    obtain ⟨vs, r1, r2⟩ := lit_ok (β := β) (pv := ps.toList.map fun p => (p.1, ρ p.2)) h4 (by rw [List.map_map, p1]; rfl) (by rw [List.map_map]; exact p2) (fun p hp => A.ok_k (h3 p hp))
    obtain ⟨z, hz⟩ := Option.isSome_iff_exists.1 h0
    obtain ⟨i, zv, z1, z2, z3⟩ := zeroB_ok (β := β) hz
    obtain ⟨hu, j, g5, g6⟩ := slS_ok h1
    have h5 := Nat.eq_of_beq_eq_true h5
    have h6 := Nat.le_of_ble_eq_true h6
    have hvl := Vs_len r1
    refine ⟨.cells vs.toArray q0.1, vs.length, .slice (some ⟨w.heap.size, 0, none⟩) k k, fun d ty pos aft gd => ?_, cellsO r1 _, fun β' hb => by show (β' n).map _ = _; rw [hb]; rfl⟩
    have e : (ps.map fun (x : Nat × Operand) => (x.1, ρ x.2)) = (ps.toList.map fun p => (p.1, ρ p.2)).toArray := by apply Array.ext'; simp
    have es : (sizeOf q0.1).run P w = .ok q0.2 w := by simp [sizeOf, typeInfo, g5, g6]
    have ez : (zeroValue q0.1).run P w = .ok zv w := by simp [zeroValue, typeInfo, z1, z2]
    have hn : ¬ k * q0.2 > 2 ^ 24 := by omega
    have hf : ∀ zero : Array Value, Instr.fill (fun i => some (i * q0.2, q0.2)) ((Array.range (k * q0.2)).map (zero[· % zero.size]!)) (ps.toList.map fun p => (p.1, ρ p.2)).toArray.toList = some vs.toArray := fun zero => by
      have := r2 ((Array.range (k * q0.2)).map (zero[· % zero.size]!)) (by simp; omega)
      simpa using this
    simp only [execOp, e, Sem.run_bind, Instr.buildSlice, run_underlying hu, Result.andThen_ok, es, if_neg hn, Sem.run_pure]
    by_cases h0' : k * q0.2 = 0
    · simp only [if_pos h0', Sem.run_pure, Result.andThen_ok, hf, newRow, Sem.run_bind, run_newObj]
      rfl
    · simp only [if_neg h0', Sem.run_bind, ez, Sem.run_pure, Result.andThen_ok, hf, newRow, run_newObj]
      rfl
  · cases Option.some.inj hg
    cases Option.some.inj ha
    refine ⟨.map #[] 0, 0, .map (some w.heap.size), fun d ty pos aft gd => ?_, ⟨#[], rfl, trivial⟩, fun β' hb => ?_⟩
    · simp only [execOp, Instr.makeMap, Option.map_none, Sem.run_bind, Result.andThen_ok, Sem.run_pure, run_newObj]
      rfl
    · show (β' n).map _ = _; rw [hb]; rfl
  · rename_i T l k
    cases Option.some.inj hg
    obtain ⟨a1, h1, ha⟩ := bd_some ha
    obtain ⟨k1, h2, ha⟩ := bd_some ha
    obtain ⟨a2, h3, ha⟩ := bd_some ha
    obtain ⟨k2, h4, ha⟩ := bd_some ha
    obtain ⟨q0, h5, ha⟩ := bd_some ha
    obtain ⟨i, h5i, ha⟩ := bd_some ha
    obtain ⟨h5b, ha⟩ := gu_some ha
    obtain ⟨z, h6, ha⟩ := bd_some ha
    obtain ⟨h6b, ha⟩ := gu_some ha
    obtain ⟨h7, ha⟩ := gu_some ha
    obtain ⟨h8, ha⟩ := gu_some ha
    cases Option.some.inj ha
    obtain ⟨hu, j, g5, g6⟩ := slS_ok h5
    rw [h5i] at g5; cases g5
    obtain ⟨i', zv, z1, z2, z3⟩ := zeroB_ok (β := β) h6
    rw [h5i] at z1; cases z1
    have h5b := Nat.le_of_ble_eq_true h5b
    have h6b := Nat.eq_of_beq_eq_true h6b
    have h7 := Nat.le_of_ble_eq_true h7
    have h8 := Nat.le_of_ble_eq_true h8
    obtain ⟨kk, e1⟩ := A.N_eq h2
    obtain ⟨kk2, e2⟩ := A.N_eq h4
    rw [e1] at h1
    rw [e2] at h3
    have hl := V_i (hρ l (by simp [Op.operands]) _ h1)
    have hc := V_i (hρ k (by simp [Op.operands]) _ h3)
    obtain ⟨us, r1, r2, r3⟩ := rep_Vs z3 k2
    have hzl : zv.cells.toList.length = q0.2 := by rw [Vs_len z3, h6b]
    refine ⟨.cells us.toArray q0.1, us.length, .slice (some ⟨w.heap.size, 0, none⟩) k1 k2, fun d ty pos aft gd => ?_, cellsO r1 _, fun β' hb => by show (β' n).map _ = _; rw [hb]; rfl⟩
    have w1 : IntKind.i64.wrap (Int.ofNat k1) = (k1 : Int) := IntWalk.i64_in _ (by show -9223372036854775808 ≤ (k1 : Int) ∧ (k1 : Int) ≤ 9223372036854775807; omega)
    have w2 : IntKind.i64.wrap (Int.ofNat k2) = (k2 : Int) := IntWalk.i64_in _ (by show -9223372036854775808 ≤ (k2 : Int) ∧ (k2 : Int) ≤ 9223372036854775807; omega)
    have hb1 : i.bytes * k2 ≤ 1000 * 16777216 := Nat.mul_le_mul h5b h8
    have hb2 : k2 * i.bytes ≤ 16777216000 := by rw [Nat.mul_comm]; omega
    have e3 : ((Array.range (k2 * i.size)).map (zv.cells[· % zv.cells.size]!)) = us.toArray := by
      apply Array.ext'
      apply List.ext_getElem?
      intro q
      by_cases hq : q < k2 * i.size
      · have hq' : q < k2 * zv.cells.toList.length := by rw [hzl, ← g6]; exact hq
        rw [r3 q hq']
        have hpos : 0 < zv.cells.size := by
          have e : zv.cells.toList.length = zv.cells.size := by simp
          rcases Nat.eq_zero_or_pos zv.cells.size with e2 | e2
          · rw [e, e2] at hq'; simp at hq'
          · exact e2
        have hlt : q % zv.cells.size < zv.cells.size := Nat.mod_lt _ hpos
        simp [hq, hlt]
      · have hq' : us.length ≤ q := by rw [r2, hzl, ← g6]; omega
        rw [List.getElem?_eq_none hq']; simp; omega
    have ez : ∀ w, (zeroValue q0.1).run P w = .ok zv w := fun w => by simp [zeroValue, typeInfo, h5i, z2]
    have es : ∀ w, (sizeOf q0.1).run P w = .ok i.size w := fun w => by simp [sizeOf, typeInfo, h5i]
    have ei : ∀ w, (typeInfo q0.1).run P w = .ok i w := fun w => by simp [typeInfo, h5i]
    have hcond : ((decide ((k2 : Int) < 0) || decide ((i.bytes : Int) * (k2 : Int) > 2 ^ 48)) || decide ((k1 : Int) < 0) || decide ((k1 : Int) > (k2 : Int))) = false := by
      have h9 : ((i.bytes * k2 : Nat) : Int) ≤ 16777216000 := by omega
      rw [Int.natCast_mul] at h9
      have h48 : (2 : Int) ^ 48 = 281474976710656 := by decide
      rw [h48]
      simp only [Bool.or_eq_false_iff, decide_eq_false_iff_not]
      omega
    have hroom : ¬ (k2 * i.bytes > roomBytes) := by unfold roomBytes; omega
    simp only [execOp, hl, hc, Instr.makeSlice, Sem.run_bind, run_underlying hu, Result.andThen_ok, asInt, asIntOf, Sem.run_pure, ei, w1, w2, hcond, Bool.false_eq_true, if_false, askRoom, Int.toNat_natCast, if_neg hroom, es]
    by_cases h0 : k2 * i.size = 0
    · simp only [if_pos h0, Sem.run_pure, Result.andThen_ok, newRow, Sem.run_bind, run_newObj]
      have : us = [] := by rw [← List.length_eq_zero_iff, r2, hzl, ← g6]; exact h0
      subst this
      have hr : Array.range 0 = #[] := by apply Array.ext'; simp
      have hm : ∀ f : Nat → Value, Array.map f #[] = #[] := fun f => by simp
      rw [h0, hr, hm]
      rfl
    · simp only [if_neg h0, Sem.run_bind, ez, Sem.run_pure, Result.andThen_ok, newRow, run_newObj, e3]
      rfl
  · cases hg
end
end Go.Ev
namespace Go.Ev
open Go.RowKit
theorem setRow_set {w : World} {g : Nat} {old cs : Array Value} {t : TypeId} {fr : Nat × Nat} (hg : w.heap[g]? = some (.cells old t fr)) : (w.setRow g cs).heap = w.heap.setIfInBounds g (.cells cs t fr) := by
  have hlt := (Array.getElem?_eq_some_iff.1 hg).1
  apply Array.ext_getElem?
  intro k
  by_cases e : g = k
  · subst e; rw [setRow_heap w g old cs t fr hg]; simp [hlt]
  · rw [Array.getElem?_setIfInBounds_ne e, setRow_other w g k cs (Ne.symm e)]
theorem one_ok {a : A} (h : a.one = true) {β : Be} {v : Value} (hv : V β a = some v) : v.oneCell' = true := by
  cases a with
  | g _ => cases h
  | t _ => cases h
  | k u => rw [V_k hv]; have : vone u = true := h; cases u <;> first | rfl | cases this
  | i _ _ => rw [V_i hv]; rfl
  | b _ => rw [V_b hv]; rfl
  | s _ => obtain ⟨_, rfl⟩ := V_s hv; rfl
  | p _ _ => obtain ⟨_, _, rfl⟩ := V_p hv; rfl
  | l _ _ _ _ => obtain ⟨_, _, rfl⟩ := V_l hv; rfl
  | o _ _ _ _ => obtain ⟨_, _, _, rfl⟩ := V_o hv; rfl
  | m _ => obtain ⟨_, _, rfl⟩ := V_m hv; rfl
  | f _ _ => obtain ⟨_, _, rfl⟩ := V_f hv; rfl
  | y _ => obtain ⟨_, _, rfl⟩ := V_y hv; rfl
theorem ones_ok {β : Be} : ∀ {l : List A} {vs : List Value}, l.all A.one = true → Vs β l = some vs → ∀ v ∈ vs, v.oneCell' = true
  | [], vs, _, h, v, hv => by cases Option.some.inj h; cases hv
  | a :: l, vs, h1, h, v, hv => by
    obtain ⟨u, r, k1, k2, rfl⟩ := Vs_cons h
    rw [List.all_cons, Bool.and_eq_true] at h1
    rcases List.mem_cons.1 hv with rfl | hv
    · exact one_ok h1.1 k1
    · exact ones_ok h1.2 k2 v hv
section
variable {P : Program} {β : Be} {h : Tr B} {n : Po} {w : World}
theorem store_ok (k : Ok β h n w) {lv : Nat} {q : Po} {off : Nat} {vs : List A} {h' : Tr B} {p : Pl} {us : List Value} (hs : storeV lv h q off vs = some h') (hp : β q = some p) (hv : Vs β vs = some us) :
    ∃ w', (storeCells (p.at off) us).run P w = .ok () w' ∧ Mv lv β h n w β h' n w' := by
  obtain ⟨b, h1, hs⟩ := bd_some hs
  obtain ⟨h2, hs⟩ := gu_some hs
  obtain ⟨h3, hs⟩ := gu_some hs
  obtain ⟨c, h4, hs⟩ := bd_some hs
  obtain ⟨l, h5, hs⟩ := bd_some hs
  cases Option.some.inj hs
  obtain ⟨p', o, k1, k2, k3⟩ := k.ob q b h1
  rw [hp] at k1; cases k1
  have hC := O.C_eq h4
  rw [hC] at k3
  obtain ⟨cs, xs, rfl, g2, g3, g4, g5, g6, g7⟩ := k3
  obtain ⟨e1, e2⟩ := putAt_eq h5
  have hul := Vs_len hv
  have hxl := Vs_len g3
  have hst := run_storeCells_at (P := P) p.blk (p.boff + off) c.2.1 us 0 cs w k2 (by omega) (ones_ok h3 hv)
  refine ⟨_, hst, ?_⟩
  refine Mv.put k h1 hp (Nat.le_of_ble_eq_true h2) (obj := .cells ((cs.toList.take (p.boff + off + 0) ++ us ++ cs.toList.drop (p.boff + off + 0 + us.length)).toArray) c.2.1 (0, 0)) (setRow_set k2) ⟨rfl, rfl, rfl, Nat.le_refl _⟩ ?_
  have hVl : Vs β l = some (xs.take off ++ us ++ xs.drop (off + us.length)) := by
    rw [e2, ← hul]; exact Vs_app (Vs_app (Vs_take _ g3) hv) (Vs_drop _ g3)
  have hll : l.length = c.1.length := by rw [← Vs_len hVl, ← hxl]; simp; omega
  refine ⟨_, _, rfl, by simp; omega, hVl, fun i v hi => ?_, by rw [hll]; exact g5, fun ho => by rw [hll]; exact g6 ho, g7⟩
  simp only [List.getElem?_toArray, Nat.add_zero, List.getElem?_append, List.length_append, List.length_take, Array.length_toList, List.getElem?_take, List.getElem?_drop] at hi ⊢
  have m1 : min off xs.length = off := by omega
  have m2 : min (p.boff + off) cs.size = p.boff + off := by omega
  rw [m1] at hi
  rw [m2]
  by_cases c1 : i < off
  · have := g4 i v (by simpa [c1, show i < off + us.length by omega] using hi)
    simp [show p.boff + i < p.boff + off by omega, show p.boff + i < p.boff + off + us.length by omega]
    simpa using this
  · by_cases c2 : i < off + us.length
    · simp [c1, c2] at hi
      simp [c2, show ¬ p.boff + i < p.boff + off by omega, show p.boff + i < p.boff + off + us.length by omega, show p.boff + i - (p.boff + off) = i - off by omega]
      exact hi
    · simp [c1, c2] at hi
      have := g4 (off + us.length + (i - (off + us.length))) v hi
      rw [show off + us.length + (i - (off + us.length)) = i by omega] at this
      simp [c2, show ¬ p.boff + i < p.boff + off + us.length by omega]
      rw [show p.boff + off + us.length + (p.boff + i - (p.boff + off + us.length)) = p.boff + i by omega]
      simpa using this
end
end Go.Ev
namespace Go.Ev
open Go.RowKit
section
variable {P : Program} {β : Be} {c : Lc} {st : List A} {m : Tr A} {ρ : Operand → Value} {h : Tr B} {n : Po} {w : World} {lv : Nat}

def Lo1 (P : Program) (lv : Nat) (β : Be) (h : Tr B) (n : Po) (w : World) (o : Op) (ρ : Operand → Value) (r : R) : Prop :=
  ∃ β' v nx w', (∀ d ty pos aft gd, (execOp ρ ⟨d, o, ty, pos, aft, gd⟩).run P w = .ok nx w') ∧ (nx = .value v ∨ (nx = .skip ∧ v = undef)) ∧ V β' r.a = some v ∧ Mv lv β h n w β' r.h r.n w'
theorem V_u0 : V β u0 = some undef := rfl
theorem rz_inj {a : A} {r : R} (e : rz a h n = some r) : r.a = a ∧ r.h = h ∧ r.n = n := by cases Option.some.inj e; exact ⟨rfl, rfl, rfl⟩
theorem nw_ok (k : Ok β h n w) {o : O} {mk : Po → A} {r : R} {obj : Obj} {sz : Nat} {w' : World} (e : nw o mk lv h n = some r) (hw : w'.heap = w.heap.push obj) (hn : Near w w') (ho : Oo β ⟨w.heap.size, 0, sz⟩ obj o) :
    r.a = mk n ∧ Mv lv β h n w (upB β n ⟨w.heap.size, 0, sz⟩) r.h r.n w' := by
  obtain ⟨e1, e2, e3⟩ := rz_inj e
  rw [e2, e3]
  exact ⟨e1, Mv.new k lv lv (Nat.le_refl _) hw hn ho⟩
theorem lo_store (k : Ok β h n w) {T : TypeId} {x y : Operand} {r : R} {ih : Ih} (hr : (loD P c (.store T x y)).f ih lv st m h n = some r)
    (hρ : ∀ z ∈ (Op.store T x y).operands, ∀ a, ev c z st m = some a → V β a = some (ρ z)) : Lo1 P lv β h n w (.store T x y) ρ r := by
  replace hr : bd (ev c x st m) (fun a => bd a.P fun q => bd (ev c y st m) fun v => bd (sizeB P T) fun sz => gu (Nat.beq v.cells.length sz) (bd (storeV lv h q.1 q.2 v.cells) fun h => rz u0 h n)) = some r := hr
  obtain ⟨a, h1, hr⟩ := bd_some hr
  obtain ⟨q, h2, hr⟩ := bd_some hr
  obtain ⟨v, h3, hr⟩ := bd_some hr
  obtain ⟨sz, h4, hr⟩ := bd_some hr
  obtain ⟨h5, hr⟩ := gu_some hr
  obtain ⟨h', h6, hr⟩ := bd_some hr
  obtain ⟨e1, e2, e3⟩ := rz_inj hr
  rw [A.P_eq h2] at h1
  obtain ⟨p, hp, hx⟩ := V_p (hρ x (by simp [Op.operands]) _ h1)
  have hy := hρ y (by simp [Op.operands]) _ h3
  obtain ⟨j, g5, g6⟩ := sizeB_ok h4
  have hk : ∀ u, v = .k u → vone u = true := fun u e => by
    subst e
    obtain ⟨b, s1, s⟩ := bd_some h6
    obtain ⟨s2, s⟩ := gu_some s
    obtain ⟨s3, s⟩ := gu_some s
    rw [List.all_eq_true] at s3
    exact s3 (A.k u) (by show A.k u ∈ [A.k u]; simp)
  have hc := cells_ok hy hk
  obtain ⟨w', k1, k2⟩ := store_ok (P := P) k h6 hp hc
  have h5 := Nat.eq_of_beq_eq_true h5
  have hsz : (ρ y).cells.size = sz := by have := Vs_len hc; simp at this; omega
  refine ⟨β, undef, .skip, w', fun d ty pos aft gd => ?_, .inr ⟨rfl, rfl⟩, by rw [e1]; rfl, by rw [e2, e3]; exact k2⟩
  have es : ∀ w, (sizeOf T).run P w = .ok sz w := fun w => by simp [sizeOf, typeInfo, g5, g6]
  simp [execOp, hx, Instr.storeAt, Instr.sureAddr, storeVar, es, hsz, k1]

theorem findE_at {kt : TypeId} {dk : TypeDesc} (hu : P.underlying kt = some dk) (hd : (∃ k, dk = .int k) ∨ dk = .string) {key : A} {vk : Value} (hk : V β key = some vk) : ∀ {es : List (A × A × Nat)} {ents : List MapEntry} {i j : Nat} {a : A},
    findE (eq1 P kt).f key es i = some (some (j, a)) → En β es ents → ∃ q en, j = i + q ∧ ents[q]? = some en ∧ en.key = vk ∧ ((∃ k n, vk = .int k n) ∨ ∃ s, vk = .string s)
  | [], [], i, j, a, h, _ => by cases Option.some.inj h
  | (k, v, b) :: es, e :: ents, i, j, a, h, ⟨h1, h2, h3, h4⟩ => by
    obtain ⟨t, g1, h⟩ := bd_some (show bd ((eq1 P kt).f key k) (fun t => cn t (some (some (i, v))) (findE (eq1 P kt).f key es (Nat.succ i))) = some (some (j, a)) from h)
    cases t with
    | true =>
      cases Option.some.inj (show some (some (i, v)) = some (some (j, a)) from h)
      refine ⟨0, e, rfl, rfl, ?_⟩
      unfold eq1 at g1
      rw [hu] at g1
      rcases hd with ⟨kk, rfl⟩ | rfl
      · replace g1 : eqIn key k = some true := g1
        unfold eqIn at g1
        split at g1
        · rw [cn_eq] at g1
          split at g1
          · rename_i hs
            have := Option.some.inj g1
            rw [eqI_eq, beq_iff_eq] at this
            subst this
            have hs := sameK_eq hs; subst hs
            rw [V_i hk, V_i h1]
            exact ⟨rfl, .inl ⟨_, _, rfl⟩⟩
          · cases g1
        · cases g1
      · replace g1 : eqSt key k = some true := g1
        unfold eqSt at g1
        split at g1
        · have := eqL_eq (Option.some.inj g1)
          subst this
          obtain ⟨s1, rfl⟩ := V_s hk
          obtain ⟨_, s2⟩ := V_s h1
          exact ⟨s2, .inr ⟨_, rfl⟩⟩
        · cases g1
    | false =>
      obtain ⟨q, en, e1, e2, e3⟩ := findE_at hu hd hk (show findE (eq1 P kt).f key es (i + 1) = some (some (j, a)) from h) h4
      exact ⟨q + 1, en, by omega, by simpa using e2, e3⟩
  | [], _ :: _, _, _, _, _, h => h.elim
  | _ :: _, [], _, _, _, _, h => h.elim
theorem En_set {v : A} {vv : Value} (hv : V β v = some vv) : ∀ {es : List (A × A × Nat)} {ents : List MapEntry} {q : Nat} {en : MapEntry}, En β es ents → ents[q]? = some en → En β (setE v q es) (ents.set q { en with val := vv })
  | (k, x, b) :: es, e :: ents, 0, en, ⟨h1, h2, h3, h4⟩, h => by
    cases Option.some.inj h
    exact ⟨h1, hv, h3, h4⟩
  | (k, x, b) :: es, e :: ents, q + 1, en, ⟨h1, h2, h3, h4⟩, h => ⟨h1, h2, h3, En_set hv h4 (by simpa using h)⟩
  | [], [], q, en, _, h => by cases h
  | [], _ :: _, _, _, h, _ => h.elim
  | _ :: _, [], _, _, h, _ => h.elim
theorem En_app {k v : A} {b : Nat} {e : MapEntry} (h1 : V β k = some e.key) (h2 : V β v = some e.val) (h3 : e.born = b) : ∀ {es : List (A × A × Nat)} {ents : List MapEntry}, En β es ents → En β (es ++ [(k, v, b)]) (ents ++ [e])
  | [], [], _ => ⟨h1, h2, h3, trivial⟩
  | _ :: _, _ :: _, ⟨g1, g2, g3, g4⟩ => ⟨g1, g2, g3, En_app h1 h2 h3 g4⟩
  | [], _ :: _, h => h.elim
  | _ :: _, [], h => h.elim
theorem sameBits_refl {kt : TypeId} {dk : TypeDesc} (hd : (∃ k, dk = .int k) ∨ dk = .string) {v : Value} (h : (∃ k n, v = .int k n) ∨ ∃ s, v = .string s) : Instr.sameBits 10000 v v = true := by
  rcases h with ⟨k, n, rfl⟩ | ⟨s, rfl⟩
  · simp [Instr.sameBits]
  · show (s.data == s.data) = true; simp
theorem map_ok (k : Ok β h n w) {T : TypeId} {q : Bx (A → A → Option Bool) × TypeId} (hq : mapD P T = some q) {nm : Po} {key v : A} {p : Pl} {vk vv : Value} {r : R} (hr : mapPut q.1.f lv h n nm key v = some r) (hp : β nm = some p) (hk : V β key = some vk) (hv : V β v = some vv) :
    ∃ w', (Instr.mapUpdate T (.map (some p.blk)) vk vv).run P w = .ok () w' ∧ r.a = u0 ∧ Mv lv β h n w β r.h r.n w' := by
  obtain ⟨kt, dk, u1, u2, u3, u4⟩ := mapD_ok hq
  rw [u4] at hr
  obtain ⟨b, h1, hr⟩ := bd_some hr
  obtain ⟨h2, hr⟩ := gu_some hr
  obtain ⟨p', o, g1, g2, g3⟩ := k.ob nm b h1
  rw [hp] at g1; cases g1
  split at hr
  · rename_i es ck e
    obtain ⟨rr, h3, hr⟩ := bd_some hr
    obtain ⟨e1, e2, e3⟩ := rz_inj hr
    rw [e] at g3
    obtain ⟨ents, rfl, g4⟩ := g3
    obtain ⟨r', k1, k2⟩ := findE_ok u2 u3 hk h3 g4
    have eg : ∀ w : World, w.heap[p.blk]? = some (.map ents ck) → (getObj p.blk).run P w = .ok (.map ents ck) w := fun w hw => by simp [getObj, Sem.run, hw]
    have ef : ∀ w, (Instr.findKey kt vk ents.toList).run P w = .ok r' w := fun w => by
      unfold Instr.findKey
      simp only [Sem.run_bind, run_underlying u2, Result.andThen_ok, k1]
      rfl
    have es' : ∀ o' : Obj, (setObj p.blk o').run P w = .ok () { w with heap := w.heap.setIfInBounds p.blk o' } := fun o' => by simp [setObj, Sem.run, g2]
    rcases k2 with ⟨rfl, rfl⟩ | ⟨j, a', v', rfl, rfl, hv'⟩
    · refine ⟨{ w with heap := w.heap.setIfInBounds p.blk (.map (ents.push { key := vk, val := vv, born := ck }) (ck + 1)) }, ?_, e1, ?_⟩
      · unfold Instr.mapUpdate
        simp only [Sem.run_bind, run_underlying u1, Result.andThen_ok, eg w g2, checkKey_ok u2 u3, ef, es']
      · rw [e2, e3]
        refine Mv.put k h1 hp (Nat.le_of_ble_eq_true h2) rfl ⟨rfl, rfl, rfl, Nat.le_refl _⟩ ⟨_, rfl, ?_⟩
        simpa using En_app (e := { key := vk, val := vv, born := ck }) hk hv rfl g4
    · obtain ⟨q', en, j1, j2, j3, hsk⟩ := findE_at u2 u3 hk h3 g4
      rw [Nat.zero_add] at j1
      subst j1
      refine ⟨{ w with heap := w.heap.setIfInBounds p.blk (.map (ents.modify j fun e => { e with key := vk, val := vv }) ck) }, ?_, e1, ?_⟩
      · have hkey : (((ents[j]?).map (·.key)).getD vk) = vk := by
          have : ents[j]? = some en := by simpa using j2
          rw [this]; exact j3
        unfold Instr.mapUpdate
        simp only [Sem.run_bind, run_underlying u1, Result.andThen_ok, eg w g2, checkKey_ok u2 u3, ef, hkey]
        simp only [Instr.keyThatStays, sameBits_refl (kt := kt) u3 hsk, if_true, Sem.run_pure, Result.andThen_ok, es']
      · rw [e2, e3]
        refine Mv.put k h1 hp (Nat.le_of_ble_eq_true h2) rfl ⟨rfl, rfl, rfl, Nat.le_refl _⟩ ⟨_, rfl, ?_⟩
        have := En_set hv g4 j2
        have e5 : (ents.modify j fun e => { e with key := vk, val := vv }).toList = ents.toList.set j { en with val := vv } := by
          apply List.ext_getElem?
          intro i
          rw [Array.getElem?_toList, Array.getElem?_modify, List.getElem?_set]
          by_cases hij : j = i
          · subst hij
            have hj : ents[j]? = some en := by simpa using j2
            have hlt : j < ents.toList.length := (List.getElem?_eq_some_iff.1 j2).1
            rw [if_pos rfl, if_pos rfl, if_pos hlt, hj, ← j3]
            rfl
          · simp [hij]
        rw [e5]; exact this
  · cases hr
end
end Go.Ev
namespace Go.Ev
open Go.RowKit
section
variable {P : Program} {β : Be} {h : Tr B} {n : Po} {w w' : World} {lv : Nat}

theorem Mv.ren (k : Ok β h n w) {q : Po} {b : B} {p : Pl} (hq : h.get q = some b) (hp : β q = some p) (hlv : lv ≤ b.lv) {x : O} {obj : Obj} (hw : w'.heap = w.heap.setIfInBounds p.blk obj) (hn : Near w w') (ho : Oo β p obj x) :
    Mv lv β h n w (upB β n p) ((h.put none q).put (some ⟨x, lv⟩) n) n.s w' := by
  have hlt := k.lt hq hp
  have hnn := k.top n (Nat.le_refl _)
  have hqn : q ≠ n := by rintro rfl; rw [hp] at hnn; cases hnn
  have hle := upB_le (β := β) (n := n) p hnn
  have hget : ∀ q' b', ((h.put none q).put (some ⟨x, lv⟩) n).get q' = some b' → (q' = n ∧ b' = ⟨x, lv⟩) ∨ (q' ≠ n ∧ q' ≠ q ∧ h.get q' = some b') := fun q' b' hb => by
    rcases Tr.get_put _ hb with ⟨e, e2⟩ | ⟨e, e2⟩
    · exact .inl ⟨e, (Option.some.inj e2).symm⟩
    · rcases Tr.get_put _ e2 with ⟨_, e4⟩ | ⟨e3, e4⟩
      · cases e4
      · exact .inr ⟨e, e3, e4⟩
  have hne2 : ∀ q' b' p', q' ≠ q → h.get q' = some b' → β q' = some p' → p.blk ≠ p'.blk := fun q' b' p' hne hb hp' e => hne (k.inj q' q b' b p' p hb hq hp' hp e.symm)
  refine ⟨by rw [Po.n_s]; omega, fun q' hq' => upB_ne β _ (by rintro rfl; omega), ⟨fun q' b' hb => ?_, fun q1 q2 b1 b2 p1 p2 hb1 hb2 g1 g2 e => ?_, fun q' hq' => ?_⟩, hn.os, hn.tape, hn.out, hn.drawn, by rw [hw]; simp, fun b1 hb1 hh => ?_, fun q' c p' hc g hlt' => ?_, fun K hK hh q' c hc => ?_⟩
  · rcases hget q' b' hb with ⟨rfl, rfl⟩ | ⟨h1, h2, hb⟩
    · exact ⟨p, obj, upB_eq _ _ _, by rw [hw]; simp [hlt], ho.le hle⟩
    · obtain ⟨p', o, k1, k2, k3⟩ := k.ob q' b' hb
      exact ⟨p', o, hle _ _ k1, by rw [hw, Array.getElem?_setIfInBounds_ne (hne2 q' b' p' h2 hb k1)]; exact k2, k3.le hle⟩
  · rcases hget q1 b1 hb1 with ⟨rfl, rfl⟩ | ⟨h1, h2, hb1'⟩ <;> rcases hget q2 b2 hb2 with ⟨rfl, rfl⟩ | ⟨h3, h4, hb2'⟩
    · rfl
    · rw [upB_eq] at g1; cases g1
      rw [upB_ne β _ h3] at g2
      exact absurd e (hne2 q2 b2 p2 h4 hb2' g2)
    · rw [upB_eq] at g2; cases g2
      rw [upB_ne β _ h1] at g1
      exact absurd e.symm (hne2 q1 b1 p1 h2 hb1' g1)
    · rw [upB_ne β _ h1] at g1
      rw [upB_ne β _ h3] at g2
      exact k.inj q1 q2 b1 b2 p1 p2 hb1' hb2' g1 g2 e
  · rw [Po.n_s] at hq'
    rw [upB_ne β _ (by rintro rfl; omega)]
    exact k.top q' (by omega)
  · rw [hw, Array.getElem?_setIfInBounds_ne (hh q b p hq hlv hp)]
  · rcases hget q' c hc with ⟨rfl, rfl⟩ | ⟨h1, h2, hb⟩
    · rw [upB_eq] at g; cases g
      exact ⟨q, b, p, hq, hp, rfl, fun _ => hlv⟩
    · rw [upB_ne β _ h1] at g
      exact ⟨q', c, p', hb, g, rfl, id⟩
  · rcases hget q' c hc with ⟨rfl, rfl⟩ | ⟨_, _, hb⟩
    · exact hK
    · exact hh q' c hb

theorem grow_ok (k : Ok β h n w) {T U e : TypeId} {i : TypeInfo} {z : Value} {sz sLen cap kk : Nat} {base : Option Addr} {olds news : List Value} {us vs : List A} {x : Value} {l : List A} (ht : P.underlying T = some (.slice e)) (hi : P.info? e = some i) (hz : i.zero = some z) (hzs : z.cells.size = i.size) (hsz : i.size = sz) (h1 : 1 ≤ sz) (hb : i.bytes ≤ 1000)
    (hold : (Builtin.firstCells i.size sLen (.slice base sLen cap)).run P w.drew = .ok olds.toArray w.drew) (hs : Src P i.size U x kk news w) (hg : cap < sLen + kk) (hl : sLen + kk ≤ lim) (hv : Vs β l = some (olds ++ news)) (hlen : l.length = (sLen + kk) * sz) :
    ∃ v w' p, (∀ ty, (Builtin.append_ #[T, U] ty #[.slice base sLen cap, x]).run P w = .ok v w') ∧ (∀ β' : Be, β' n = some p → V β' (.o n 0 (sLen + kk) sz) = some v) ∧ Mv lv β h n w (upB β n p) (h.put (some ⟨.c l e true, lv⟩) n) n.s w' ∧ p.blk = w.heap.size := by
  subst hsz
  unfold lim at hl
  have hfit := growslice_fits (bytes := i.bytes) hg (by have := Nat.mul_le_mul hl hb; omega)
  have hgc := grownCap_ge w (sLen + kk) cap e
  obtain ⟨gc, hgc'⟩ : ∃ gc, gc = grownCap w (sLen + kk) cap e := ⟨_, rfl⟩
  rw [← hgc'] at hgc
  have hnl : (olds ++ news).length = (sLen + kk) * i.size := by rw [Vs_len hv, hlen]
  obtain ⟨arr, harr⟩ : ∃ arr, arr = (olds ++ news).toArray ++ Builtin.zeroCells z.cells (gc - (sLen + kk)) := ⟨_, rfl⟩
  have hasz : arr.size = gc * i.size := by
    rw [harr, Array.size_append, size_zeroCells, hzs, List.size_toArray, hnl, ← Nat.add_mul]
    congr 1; omega
  refine ⟨.slice (some ⟨w.heap.size, 0, none⟩) (sLen + kk) gc, w.drew.alloc (.cells arr e), ⟨w.heap.size, 0, gc * i.size⟩, fun ty => ?_, fun β' hβ => ?_, ?_, rfl⟩
  · rw [run_append_grow_src w T U ty e i z ht hi hz base sLen cap olds hold x kk news hs hg (by omega) hfit, ← hgc', ← harr]
  · have hc : (gc * i.size - (0 + 0)) / i.size = gc := by rw [Nat.sub_zero]; exact Nat.mul_div_cancel _ h1
    have := V_omk (β := β') (n := n) (off := 0) (len := sLen + kk) (sz := i.size) hβ (by show sLen + kk ≤ (gc * i.size - (0 + 0)) / i.size; rw [hc]; exact hgc)
    rw [this]
    show some (Value.slice _ _ ((gc * i.size - (0 + 0)) / i.size)) = _
    rw [hc]; rfl
  · refine Mv.new k lv lv (Nat.le_refl _) (obj := .cells arr e) rfl ⟨rfl, rfl, rfl, Nat.le_succ _⟩ ⟨arr, _, rfl, hasz, hv, fun j v hj => ?_, ?_, fun h => (by cases h), rfl⟩
    · rw [harr]
      show ((olds ++ news).toArray ++ _)[0 + j]? = _
      have hjl : j < (olds ++ news).length := (List.getElem?_eq_some_iff.1 hj).1
      rw [Nat.zero_add, Array.getElem?_append_left (by simpa using hjl)]
      simpa using hj
    · show 0 + l.length ≤ gc * i.size
      rw [hlen, Nat.zero_add]; exact Nat.mul_le_mul_right _ hgc
end
end Go.Ev
namespace Go.Ev
open Go.RowKit
section
variable {P : Program} {β : Be} {h : Tr B} {n : Po} {w w' : World} {lv : Nat}
theorem byteV_asBytes : ∀ {l : List Nat}, okS l = true → Vs β (asBytes l) = some (byteCells (txt l))
  | [], _ => rfl
  | c :: l, hl => by
    unfold okS at hl
    rw [List.all_cons, Bool.and_eq_true] at hl
    have hc := Nat.le_of_ble_eq_true hl.1
    have h2 := byteV_asBytes (l := l) hl.2
    have e1 : byteCells (txt (c :: l)) = Value.int .u8 (UInt8.ofNat c).toNat :: byteCells (txt l) := by unfold byteCells txt; simp
    have e2 : ((UInt8.ofNat c).toNat : Int) = Int.ofNat c := by
      have : (UInt8.ofNat c).toNat = c := by rw [UInt8.toNat_ofNat']; exact Nat.mod_eq_of_lt (by omega)
      rw [this]; rfl
    rw [e1]
    exact Vs_mk (by show some (Value.int .u8 (Int.ofNat c)) = _; rw [e2]) h2

theorem src_ok (hm : Ob β h w) {U : TypeId} {sz : Nat} {y : A} {s : Nat × List A} {vy : Value} (hs : (srcD P U sz).f h y = some s) (hy : V β y = some vy) (hl : s.2.length = s.1 * sz) (h1 : s.2.all A.one = true) : ∃ us, Vs β s.2 = some us ∧ Src P sz U vy s.1 us w := by
  unfold srcD at hs
  split at hs
  · rename_i e hu
    obtain ⟨k, g1, hs⟩ := bd_some (show bd (lenA y) (fun k => bd (elems sz h y) fun vs => some (k, vs)) = some s from hs)
    obtain ⟨vs, g2, hs⟩ := bd_some hs
    cases Option.some.inj hs
    rcases elems_ok hm g1 g2 hy with ⟨rfl, rfl, rfl⟩ | ⟨a, cap, us, rfl, k1, k2, k3⟩
    · exact ⟨[], rfl, Src.ofNil w hu 0⟩
    · exact ⟨us, k1, Src.ofSlice w hu a k cap us (by rw [Vs_len k1]; exact k2) k3 (ones_ok h1 k1)⟩
  · rename_i hu
    rw [cn_eq] at hs
    split at hs
    · rename_i hz
      obtain ⟨l, g1, hs⟩ := bd_some (show bd y.S (fun l => some (l.length, asBytes l)) = some s from hs)
      cases Option.some.inj hs
      have hz := Nat.eq_of_beq_eq_true hz
      subst hz
      rw [A.S_eq g1] at hy
      obtain ⟨k1, rfl⟩ := V_s hy
      refine ⟨_, byteV_asBytes k1, ?_⟩
      have := Src.ofString w hu (txt l)
      rw [txt_size] at this
      exact this
    · cases hs
  · cases hs
theorem append_room (t tx ty e : TypeId) (i : TypeInfo) (ht : P.underlying t = some (.slice e)) (hi : P.info? e = some i) {b off sLen sCap : Nat} {x : Value} {k : Nat} {news : List Value} (hs : Src P i.size tx x k news w)
    (hroom : sLen + k ≤ sCap) (hst : (storeCells ⟨b, off + sLen * i.size, none⟩ news).run P w = .ok () w') :
    (Builtin.append_ #[t, tx] ty #[.slice (some ⟨b, off, none⟩) sLen sCap, x]).run P w = .ok (.slice (some ⟨b, off, none⟩) (sLen + k) sCap) w' := by
  rcases hs.kind with ⟨e', hk⟩ | hk <;> simp [Builtin.append_, run_underlying ht, run_underlying hk, sizeOf, typeInfo, hi, hs.len, hroom, hs.cells, Addr.add_lit, hst]
theorem append_nil (t tx ty e : TypeId) (i : TypeInfo) (ht : P.underlying t = some (.slice e)) (hi : P.info? e = some i) {x : Value} {news : List Value} (hs : Src P i.size tx x 0 news w) :
    (Builtin.append_ #[t, tx] ty #[.slice none 0 0, x]).run P w = .ok (.slice none 0 0) w := by
  rcases hs.kind with ⟨e', hk⟩ | hk <;> simp [Builtin.append_, run_underlying ht, run_underlying hk, sizeOf, typeInfo, hi, hs.len, hs.cells]
theorem firstOld (hm : Ob β h w) {q : Po} {off len sz cap : Nat} {us : List A} {p : Pl} (h2 : cellsOf h q off (len * sz) = some us) (hp : β q = some p) :
    ∃ olds, Vs β us = some olds ∧ us.length = len * sz ∧ ∀ w' : World, w'.heap = w.heap → (Builtin.firstCells sz len (.slice (some (p.at off)) len cap)).run P w' = .ok olds.toArray w' := by
  obtain ⟨g1, us', g2, g3⟩ := cellsOf_ok hm h2 hp
  refine ⟨us', g2, g1, fun w' hw => run_firstCells_some w' sz len (p.at off) len cap us' (by rw [Vs_len g2]; exact g1) fun j u hj => ?_⟩
  have := g3 j u hj
  unfold World.cell? at this ⊢
  rw [hw]; exact this
theorem appendL_ok (k : Ok β h n w) {T U : TypeId} {x : A} {vx vy : Value} {r : R} {q : TypeId × Nat} {i : TypeInfo} {z : Value} {s : Nat × List A} {us : List Value} (ht : P.underlying T = some (.slice q.1)) (hi : P.info? q.1 = some i) (hsz : i.size = q.2) (hb : i.bytes ≤ 1000) (hs1 : 1 ≤ q.2) (hz1 : i.zero = some z) (hz2 : z.cells.size = i.size)
    (g2 : s.2.length = s.1 * q.2) (g3 : s.2.all A.one = true) (s1 : Vs β s.2 = some us) (hul : us.length = s.2.length) (s2 : Src P q.2 U vy s.1 us w) (hr : appendL lv q.2 q.1 s.1 s.2 h n x = some r) (hx : V β x = some vx) :
    ∃ β' v w', (∀ ty, (Builtin.append_ #[T, U] ty #[vx, vy]).run P w = .ok v w') ∧ V β' r.a = some v ∧ Mv lv β h n w β' r.h r.n w' := by
  unfold appendL at hr
  rw [← hsz] at s2
  split at hr
  · cases V_k hx
    rw [cond_eq_ite] at hr
    split at hr
    · rename_i h0
      have h0 := Nat.eq_of_beq_eq_true h0
      obtain ⟨e1, e2, e3⟩ := rz_inj hr
      rw [h0] at s2
      exact ⟨β, _, w, fun ty => append_nil T U ty q.1 i ht hi s2, by rw [e1]; exact hx, by rw [e2, e3]; exact Mv.refl k⟩
    · rename_i h0
      obtain ⟨hl, hr⟩ := gu_some hr
      have hl := Nat.le_of_ble_eq_true hl
      have h0 : s.1 ≠ 0 := fun e => h0 (by rw [e]; rfl)
      obtain ⟨v, w', p, r1, r2, r3, _⟩ := grow_ok (lv := lv) (olds := []) (us := []) (vs := s.2) (l := s.2) k ht hi hz1 hz2 hsz hs1 hb (run_firstCells_none w.drew _ 0 0 0) s2 (by omega) (by omega) (by simpa using s1) (by rw [g2, Nat.zero_add])
      obtain ⟨e1, e2, e3⟩ := rz_inj hr
      refine ⟨_, v, w', r1, ?_, by rw [e2, e3]; exact r3⟩
      rw [e1]; have := r2 _ (upB_eq β n p); rw [Nat.zero_add] at this; exact this
  · rename_i q' off len cap
    obtain ⟨p, hp, rfl⟩ := V_l hx
    rw [cond_eq_ite] at hr
    split at hr
    · rename_i hc
      obtain ⟨h', h6, hr⟩ := bd_some hr
      obtain ⟨w', k1, k2⟩ := store_ok (P := P) k h6 hp s1
      obtain ⟨e1, e2, e3⟩ := rz_inj hr
      refine ⟨β, _, w', fun ty => append_room T U ty q.1 i ht hi s2 (Nat.le_of_ble_eq_true hc) (by rw [hsz]; rw [Nat.add_assoc]; exact k1), ?_, by rw [e2, e3]; exact k2⟩
      rw [e1]; show (β q').map _ = _; rw [hp]; rfl
    · rename_i hc
      obtain ⟨us', h6, hr⟩ := bd_some hr
      obtain ⟨hl, hr⟩ := gu_some hr
      have hl := Nat.le_of_ble_eq_true hl
      have hc : ¬ len + s.1 ≤ cap := fun e => hc (Nat.ble_eq_true_of_le e)
      obtain ⟨olds, o1, o2, o3⟩ := firstOld (P := P) (cap := cap) k.ob h6 hp
      obtain ⟨v, w', p', r1, r2, r3, _⟩ := grow_ok (lv := lv) (us := []) (vs := s.2) (l := us' ++ s.2) k ht hi hz1 hz2 hsz hs1 hb (by rw [hsz]; exact o3 w.drew rfl) s2 (by omega) hl (Vs_app o1 s1) (by rw [List.length_append, o2, g2, Nat.add_mul])
      obtain ⟨e1, e2, e3⟩ := rz_inj hr
      refine ⟨_, v, w', r1, ?_, by rw [e2, e3]; exact r3⟩
      rw [e1]; exact r2 _ (upB_eq β n p')
  · rename_i q' off len zz
    obtain ⟨b, h6, hr⟩ := bd_some hr
    obtain ⟨c, h7, hr⟩ := bd_some hr
    obtain ⟨h8, hr1⟩ := gu_some hr
    obtain ⟨h9, hr2⟩ := gu_some hr1
    clear hr hr1
    rw [Bool.and_eq_true] at h8
    have h8a := Nat.eq_of_beq_eq_true h8.1
    have h8b := Nat.eq_of_beq_eq_true h8.2
    obtain ⟨p, hp, hcap, rfl⟩ := V_o hx
    subst h8a
    obtain ⟨p', o, k1, k2, k3⟩ := k.ob q' b h6
    rw [hp] at k1; cases k1
    have hC := O.C_eq h7
    rw [hC] at k3
    obtain ⟨cs, xs, rfl, x2, x3, x4, x5, x6, x7⟩ := k3
    have hpos : 0 < q.2 := by omega
    rw [cond_eq_ite] at hr2
    split at hr2
    · rename_i hc
      have hc := Nat.le_of_ble_eq_true hc
      obtain ⟨h', h10, hr3⟩ := bd_some hr2
      obtain ⟨w', m1, m2⟩ := store_ok (P := P) k h10 hp s1
      obtain ⟨e1, e2, e3⟩ := rz_inj hr3
      have hroom : len + s.1 ≤ (p.size - (p.boff + off)) / q.2 := by
        rw [Nat.le_div_iff_mul_le hpos]; omega
      refine ⟨β, _, w', fun ty => append_room T U ty q.1 i ht hi s2 hroom (by rw [hsz]; rw [Nat.add_assoc]; exact m1), ?_, by rw [e2, e3]; exact m2⟩
      rw [e1]; exact V_omk hp hroom
    · obtain ⟨t1, hr3⟩ := gu_some hr2
      obtain ⟨t2, hr4⟩ := gu_some hr3
      obtain ⟨t3, hr5⟩ := gu_some hr4
      obtain ⟨t4, hr6⟩ := gu_some hr5
      have t1 := Nat.eq_of_beq_eq_true t1
      have t2 := Nat.eq_of_beq_eq_true t2
      have t3 := Nat.le_of_ble_eq_true t3
      have t4 := Nat.le_of_ble_eq_true t4
      subst t1
      rw [Nat.zero_add] at t2
      obtain ⟨e1, e2, e3⟩ := rz_inj hr6
      have hxl := Vs_len x3
      by_cases hroom : len + s.1 ≤ (p.size - (p.boff + 0)) / q.2
      · have hr2 := (Nat.le_div_iff_mul_le hpos).1 hroom
        rw [Nat.add_mul] at hr2
        have hst := run_storeCells_at (P := P) p.blk (p.boff + (0 + len * q.2)) c.2.1 us 0 cs w k2 (by omega) (ones_ok g3 s1)
        refine ⟨upB β n p, _, _, fun ty => append_room T U ty q.1 i ht hi s2 hroom (by rw [hsz, Nat.add_assoc]; exact hst), ?_, ?_⟩
        · rw [e1]; exact V_omk (upB_eq β n p) hroom
        · rw [e2, e3]
          refine Mv.ren k h6 hp t3 (obj := .cells ((cs.toList.take (p.boff + (0 + len * q.2) + 0) ++ us ++ cs.toList.drop (p.boff + (0 + len * q.2) + 0 + us.length)).toArray) q.1 (0, 0)) (by rw [← h8b]; exact setRow_set k2) ⟨rfl, rfl, rfl, Nat.le_refl _⟩ ?_
          refine ⟨_, xs ++ us, rfl, by simp; omega, Vs_app x3 s1, fun i v hi => ?_, by rw [List.length_append]; omega, fun ho => (by cases ho), x7⟩
          simp only [List.getElem?_toArray, Nat.add_zero, Nat.zero_add, List.getElem?_append, List.length_append, List.length_take, Array.length_toList, List.getElem?_take, List.getElem?_drop] at hi ⊢
          rw [x7, Nat.zero_add, Nat.zero_add]
          have m2 : min (len * q.2) cs.size = len * q.2 := by omega
          rw [m2]
          rw [hxl, ← t2] at hi
          by_cases c1 : i < len * q.2
          · have := x4 i v (by simpa [c1] using hi)
            rw [x7, Nat.zero_add] at this
            simp [c1, show i < len * q.2 + us.length by omega]
            exact this
          · rw [if_neg c1] at hi
            have c2 : i - len * q.2 < us.length := (List.getElem?_eq_some_iff.1 hi).1
            simp [c1, show i < len * q.2 + us.length by omega]
            exact hi
      · have hcl : cellsOf h q' 0 (len * q.2) = some c.1 := by
          unfold cellsOf bd
          rw [h6]
          show bd b.o.D _ = _
          rw [hC]
          show getAt (len * q.2) 0 c.1 = _
          show (bif Nat.ble (len * q.2) c.1.length then some (c.1.take (len * q.2)) else none) = _
          rw [t2, Nat.ble_eq_true_of_le (Nat.le_refl _)]
          simp
        obtain ⟨olds, o1, o2, o3⟩ := firstOld (P := P) (cap := (p.size - (p.boff + 0)) / q.2) k.ob hcl hp
        have kd := Mv.drop (lv := lv) k q'
        obtain ⟨v, w', p', r1, r2, r3, _⟩ := grow_ok (lv := lv) (us := []) (vs := s.2) (l := c.1 ++ s.2) kd.ok ht hi hz1 hz2 hsz hs1 hb (by rw [hsz]; exact o3 w.drew rfl) s2 (by omega) t4 (Vs_app o1 s1) (by rw [List.length_append, o2, g2, Nat.add_mul])
        refine ⟨_, v, w', r1, ?_, by rw [e2, e3]; exact kd.trans r3⟩
        rw [e1]; exact r2 _ (upB_eq β n p')
  · cases hr
theorem append_ok (k : Ok β h n w) {T U : TypeId} {x y : A} {vx vy : Value} {r : R} (hr : (append P T U).f lv h n x y = some r) (hx : V β x = some vx) (hy : V β y = some vy) :
    ∃ β' v w', (∀ ty, (Builtin.append_ #[T, U] ty #[vx, vy]).run P w = .ok v w') ∧ V β' r.a = some v ∧ Mv lv β h n w β' r.h r.n w' := by
  unfold append at hr
  split at hr
  · cases hr
  · rename_i q hq
    obtain ⟨ht, i0, hi0, hsz⟩ := slS_ok hq
    split at hr
    · cases hr
    · rename_i i hi
      rw [hi] at hi0; have e0 := Option.some.inj hi0; subst e0
      rw [cn_eq] at hr
      split at hr
      · rename_i hg
        rw [Bool.and_eq_true, Bool.and_eq_true] at hg
        have hb := Nat.le_of_ble_eq_true hg.1
        have hzl := Nat.eq_of_beq_eq_true hg.2.1
        have hs1 := Nat.le_of_ble_eq_true hg.2.2
        obtain ⟨s, g1, hr⟩ := bd_some (show bd ((srcD P U q.2).f h y) (fun s => gu (Nat.beq s.2.length (s.1 * q.2)) (gu (s.2.all A.one) (appendL lv q.2 q.1 s.1 s.2 h n x))) = some r from hr)
        obtain ⟨g2, hr⟩ := gu_some hr
        obtain ⟨g3, hr⟩ := gu_some hr
        have g2 := Nat.eq_of_beq_eq_true g2
        obtain ⟨us, s1, s2⟩ := src_ok (P := P) (U := U) k.ob g1 hy g2 g3
        have hul := Vs_len s1
        have hz : ∃ z, i.zero = some z ∧ z.cells.size = i.size := by
          have : zeroB P q.1 = some ((zeroB P q.1).getD []) := by
            cases e : zeroB P q.1 with
            | none => rw [e] at hzl; simp at hzl; omega
            | some z => rfl
          obtain ⟨i', z, e1, e2, e3⟩ := zeroB_ok (β := β) this
          rw [hi] at e1; have e0 := Option.some.inj e1; subst e0
          refine ⟨z, e2, ?_⟩
          have := Vs_len e3
          simp at this; omega
        obtain ⟨z, hz1, hz2⟩ := hz
        exact appendL_ok k ht hi hsz hb hs1 hz1 hz2 g2 g3 s1 hul s2 hr hx
      · cases hr
end
end Go.Ev
namespace Go.Ev
open Go.RowKit
section
variable {P : Program} {β : Be} {c : Lc} {st : List A} {m : Tr A} {ρ : Operand → Value} {h : Tr B} {n : Po} {w w' : World} {lv : Nat}

theorem Mv.gone (k : Ok β h n w) {q : Po} {b : B} {p : Pl} (hq : h.get q = some b) (hp : β q = some p) (hlv : lv ≤ b.lv) (hsz : w'.heap.size = w.heap.size) (hw : ∀ x, x ≠ p.blk → w'.heap[x]? = w.heap[x]?) (hn : Near w w') :
    Mv lv β h n w β (h.put none q) n w' := by
  have hget : ∀ q' b', (h.put none q).get q' = some b' → q' ≠ q ∧ h.get q' = some b' := fun q' b' hb => by
    rcases Tr.get_put _ hb with ⟨_, e2⟩ | ⟨e, e2⟩
    · cases e2
    · exact ⟨e, e2⟩
  refine ⟨Nat.le_refl _, fun _ _ => rfl, ⟨fun q' b' hb => ?_, fun q1 q2 b1 b2 p1 p2 hb1 hb2 => k.inj q1 q2 b1 b2 p1 p2 (hget _ _ hb1).2 (hget _ _ hb2).2, k.top⟩, hn.os, hn.tape, hn.out, hn.drawn, by rw [hsz]; exact Nat.le_refl _, fun b1 hb1 hh => ?_, fun q' c p' hc g hlt => ⟨q', c, p', (hget _ _ hc).2, g, rfl, id⟩, fun K _ hh q c hc => hh q c (hget _ _ hc).2⟩
  · obtain ⟨h1, h2⟩ := hget q' b' hb
    obtain ⟨p', o, k1, k2, k3⟩ := k.ob q' b' h2
    exact ⟨p', o, k1, by rw [hw _ fun e => h1 (k.inj q' q b' b p' p h2 hq k1 hp e)]; exact k2, k3⟩
  · exact hw _ fun e => hh q b p hq hlv hp e.symm

theorem first_ok (hm : Ob β h w) {U : TypeId} {sz j : Nat} {y : A} {s : Nat × List A} {vy : Value} (hs : (srcD P U sz).f h y = some s) (hy : V β y = some vy) (hl : s.2.length = s.1 * sz) (hj : j ≤ s.1) :
    ∃ us, Vs β (s.2.take (j * sz)) = some us ∧ us.length = j * sz ∧ (∀ w, (Builtin.lenOf vy).run P w = .ok s.1 w) ∧ (Builtin.firstCells sz j vy).run P w = .ok us.toArray w := by
  unfold srcD at hs
  split at hs
  · rename_i e hu
    obtain ⟨k, g1, hs⟩ := bd_some (show bd (lenA y) (fun k => bd (elems sz h y) fun vs => some (k, vs)) = some s from hs)
    obtain ⟨vs, g2, hs⟩ := bd_some hs
    cases Option.some.inj hs
    rcases elems_ok hm g1 g2 hy with ⟨rfl, rfl, rfl⟩ | ⟨a, cap, us, rfl, k1, k2, k3⟩
    · have : j = 0 := by simpa using hj
      subst this
      exact ⟨[], by simp [Vs], by simp, fun _ => rfl, run_firstCells_none w sz 0 0 0⟩
    · have hul := Vs_len k1
      have hle : j * sz ≤ vs.length := by rw [k2]; exact Nat.mul_le_mul_right _ hj
      refine ⟨us.take (j * sz), Vs_take _ k1, by rw [List.length_take]; omega, fun _ => rfl, run_firstCells_some w sz j a k cap _ (by rw [List.length_take]; omega) fun i u hi => ?_⟩
      rw [List.getElem?_take] at hi
      split at hi
      · exact k3 i u hi
      · cases hi
  · rename_i hu
    rw [cn_eq] at hs
    split at hs
    · rename_i hz
      obtain ⟨l, g1, hs⟩ := bd_some (show bd y.S (fun l => some (l.length, asBytes l)) = some s from hs)
      cases Option.some.inj hs
      have hz := Nat.eq_of_beq_eq_true hz
      subst hz
      rw [A.S_eq g1] at hy
      obtain ⟨k1, rfl⟩ := V_s hy
      have hb := byteV_asBytes (β := β) k1
      have hbl := byteCells_length (txt l)
      rw [txt_size] at hbl
      refine ⟨_, Vs_take _ hb, by rw [List.length_take, hbl]; simp only at hj; omega, fun w => by simp [Builtin.lenOf, txt_size], ?_⟩
      simp only [Builtin.firstCells, Sem.run_pure]
      congr 1
      apply Array.ext'
      simp only at hj
      rw [Nat.mul_one]
      unfold byteCells
      have : ((txt l).extract 0 j).data.toList = (txt l).data.toList.take j := by
        rw [ByteArray.data_extract]; simp
      rw [Array.toList_map, this, List.map_take]
    · cases hs
  · cases hs
theorem copy_ok (k : Ok β h n w) {T U : TypeId} {xs : List A} {us : List Value} {r : R} (hr : (bi P .copy T U).f lv h n xs = some r) (hx : Vs β xs = some us) :
    ∃ β' v w', (∀ ty, (Builtin.copy_ #[T, U] ty us.toArray).run P w = .ok v w') ∧ V β' r.a = some v ∧ Mv lv β h n w β' r.h r.n w' := by
  unfold bi at hr
  simp only at hr
  split at hr
  · cases hr
  · rename_i q hq
    obtain ⟨ht, i, hi, hsz⟩ := slS_ok hq
    revert hr
    intro hr
    match xs, hx, hr with
    | [x, y], hx, hr =>
      obtain ⟨vx, r1, x1, x2, rfl⟩ := Vs_cons hx
      obtain ⟨vy, r2, y1, y2, rfl⟩ := Vs_cons x2
      have := Vs_nil_inv y2; subst this
      obtain ⟨s, g1, hr1⟩ := bd_some (show bd ((srcD P U q.2).f h y) (fun s => gu (Nat.beq s.2.length (s.1 * q.2)) (match x with
        | .k (.slice none 0 _) => rz (num 0) h n
        | .l d off a _ => bd (storeV lv h d off (s.2.take (Nat.min s.1 a * q.2))) fun h => rz (num (Nat.min s.1 a)) h n
        | .o d off a _ => bd (storeV lv h d off (s.2.take (Nat.min s.1 a * q.2))) fun h => rz (num (Nat.min s.1 a)) h n
        | _ => none)) = some r from hr)
      clear hr
      obtain ⟨g2, hr2⟩ := gu_some hr1
      clear hr1
      have g2 := Nat.eq_of_beq_eq_true g2
      have key : ∀ (d : Po) (off a cap : Nat) (p : Pl), β d = some p → bd (storeV lv h d off (s.2.take (Nat.min s.1 a * q.2))) (fun h => rz (num (Nat.min s.1 a)) h n) = some r →
          ∃ β' v w', (∀ ty, (Builtin.copy_ #[T, U] ty [Value.slice (some (p.at off)) a cap, vy].toArray).run P w = .ok v w') ∧ V β' r.a = some v ∧ Mv lv β h n w β' r.h r.n w' := by
        intro d off a cap p hp hr
        obtain ⟨h', h6, hr⟩ := bd_some hr
        obtain ⟨e1, e2, e3⟩ := rz_inj hr
        obtain ⟨us, u1, u2, u3, u4⟩ := first_ok (P := P) (U := U) k.ob g1 y1 g2 (Nat.min_le_left s.1 a)
        obtain ⟨w', k1, k2⟩ := store_ok (P := P) k h6 hp u1
        refine ⟨β, goInt (Nat.min s.1 a), w', fun ty => ?_, by rw [e1]; rfl, by rw [e2, e3]; exact k2⟩
        simp [Builtin.copy_, run_underlying ht, sizeOf, typeInfo, hi, hsz, u3, u4, k1]
      split at hr2
      · rename_i cap
        cases V_k x1
        obtain ⟨e1, e2, e3⟩ := rz_inj hr2
        obtain ⟨us, u1, u2, u3, u4⟩ := first_ok (P := P) (U := U) k.ob g1 y1 g2 (Nat.zero_le s.1)
        refine ⟨β, goInt 0, w, fun ty => ?_, by rw [e1]; rfl, by rw [e2, e3]; exact Mv.refl k⟩
        simp [Builtin.copy_, run_underlying ht, sizeOf, typeInfo, hi, hsz, u3, u4]
      · obtain ⟨p, hp, rfl⟩ := V_l x1
        exact key _ _ _ _ p hp hr2
      · obtain ⟨p, hp, _, rfl⟩ := V_o x1
        exact key _ _ _ _ p hp hr2
      · cases hr2
    | [], hx, hr => cases hr
    | [_], hx, hr => cases hr
    | _ :: _ :: _ :: _, hx, hr => cases hr
end
end Go.Ev
namespace Go.Ev
open Go.RowKit
section
variable {P : Program} {β : Be} {c : Lc} {st : List A} {m : Tr A} {ρ : Operand → Value} {h : Tr B} {n : Po} {w w' : World} {lv : Nat}
theorem sliceData_some (ts : Array TypeId) (ty : TypeId) (a : Addr) (len cap : Nat) (h : cap ≠ 0) : (Builtin.unsafeSliceData_ ts ty #[.slice (some a) len cap]).run P w = .ok (.pointer (some a)) w := by
  have hdef : Builtin.unsafeSliceData_ ts ty #[.slice (some a) len cap] =
      (do
        if cap ≠ 0 then pure (.pointer (some a))
        else if (← viewAt a.block).isSome then pure (.pointer (some a))
        else pure (.pointer (some ⟨← newObj (.view a (← elemOf ty)), 0, none⟩))) := rfl
  rw [hdef, if_pos h]; rfl
theorem sliceData_ok (k : Ok β h n w) {T U : TypeId} {xs : List A} {us : List Value} {r : R} (hr : (bi P .unsafeSliceData T U).f lv h n xs = some r) (hx : Vs β xs = some us) (ts : Array TypeId) :
    ∃ β' v w', (∀ ty, (Builtin.unsafeSliceData_ ts ty us.toArray).run P w = .ok v w') ∧ V β' r.a = some v ∧ Mv lv β h n w β' r.h r.n w' := by
  unfold bi at hr
  simp only at hr
  split at hr
  · obtain ⟨vx, r1, x1, x2, rfl⟩ := Vs_cons hx
    have := Vs_nil_inv x2; subst this
    obtain ⟨p, hp, rfl⟩ := V_l x1
    obtain ⟨e1, e2, e3⟩ := rz_inj hr
    exact ⟨β, .pointer (some (p.at _)), w, fun ty => sliceData_some ts ty _ _ _ (Nat.succ_ne_zero _), by rw [e1]; show (β _).map _ = _; rw [hp]; rfl, by rw [e2, e3]; exact Mv.refl k⟩
  · obtain ⟨vx, r1, x1, x2, rfl⟩ := Vs_cons hx
    have := Vs_nil_inv x2; subst this
    obtain ⟨p, hp, hc, rfl⟩ := V_o x1
    obtain ⟨e1, e2, e3⟩ := rz_inj hr
    have h0 := Nat.ne_of_gt (Nat.lt_of_lt_of_le (Nat.succ_pos _) hc)
    exact ⟨β, .pointer (some (p.at _)), w, fun ty => sliceData_some ts ty _ _ _ h0, by rw [e1]; show (β _).map _ = _; rw [hp]; rfl, by rw [e2, e3]; exact Mv.refl k⟩
  · obtain ⟨vx, r1, x1, x2, rfl⟩ := Vs_cons hx
    have := Vs_nil_inv x2; subst this
    cases V_k x1
    obtain ⟨e1, e2, e3⟩ := rz_inj hr
    exact ⟨β, .pointer none, w, fun ty => rfl, by rw [e1]; rfl, by rw [e2, e3]; exact Mv.refl k⟩
  · cases hr
theorem uString0 (ts : Array TypeId) (ty : TypeId) (p : Option Addr) (k : IntKind) (hp : ts[0]?.isSome = true) : (Builtin.unsafeString_ ts ty #[.pointer p, .int k 0]).run P w = .ok (.string .empty) w := by
  obtain ⟨pt, hp⟩ := Option.isSome_iff_exists.1 hp
  have hmax : IntKind.i64.max = 9223372036854775807 := rfl
  have e0 : (asInt (.int k 0)).run P w = .ok 0 w := by simp [asInt, asIntOf]
  have ef : ∀ (f : Int → Sem Value) , (asInt (.int k 0) >>= f).run P w = (f 0).run P w := fun f => by rw [Sem.run_bind, e0]; rfl
  unfold Builtin.unsafeString_
  show (asInt (.int k 0) >>= _).run P w = _
  rw [ef, hp]
  have h1 : ¬ ((0 : Int) < 0) := by omega
  have h2 : ¬ ((0 : Int) > IntKind.i64.max) := by rw [hmax]; omega
  simp only [if_neg h1, if_neg h2]
  cases p <;> rfl
theorem uString (k : Ok β h n w) {T U : TypeId} {xs : List A} {us : List Value} {r : R} (hr : (bi P .unsafeString T U).f lv h n xs = some r) (hx : Vs β xs = some us) (ts : Array TypeId) (ht : ts[0]? = some T) :
    ∃ β' v w', (∀ ty, (Builtin.unsafeString_ ts ty us.toArray).run P w = .ok v w') ∧ V β' r.a = some v ∧ Mv lv β h n w β' r.h r.n w' := by
  unfold bi at hr
  simp only at hr
  split at hr
  · rename_i e he
    rw [cn_eq] at hr
    split at hr
    · rename_i hc
      have hc := Nat.eq_of_beq_eq_true hc
      simp only at hr
      split at hr
      · obtain ⟨vx, r1, x1, x2, rfl⟩ := Vs_cons hx
        obtain ⟨vy, r2, y1, y2, rfl⟩ := Vs_cons x2
        have := Vs_nil_inv y2; subst this
        obtain ⟨p, hp, rfl⟩ := V_p x1
        rw [V_i y1]
        obtain ⟨e1, e2, e3⟩ := rz_inj hr
        exact ⟨β, .string .empty, w, fun ty => uString0 ts ty _ _ (by rw [ht]; rfl), by rw [e1]; rfl, by rw [e2, e3]; exact Mv.refl k⟩
      · obtain ⟨vx, r1, x1, x2, rfl⟩ := Vs_cons hx
        obtain ⟨vy, r2, y1, y2, rfl⟩ := Vs_cons x2
        have := Vs_nil_inv y2; subst this
        cases V_k x1
        rw [V_i y1]
        obtain ⟨e1, e2, e3⟩ := rz_inj hr
        exact ⟨β, .string .empty, w, fun ty => uString0 ts ty _ _ (by rw [ht]; rfl), by rw [e1]; rfl, by rw [e2, e3]; exact Mv.refl k⟩
      · rename_i d off kk _
        obtain ⟨vx, r1, x1, x2, rfl⟩ := Vs_cons hx
        obtain ⟨vy, r2, y1, y2, rfl⟩ := Vs_cons x2
        have := Vs_nil_inv y2; subst this
        obtain ⟨p, hp, rfl⟩ := V_p x1
        rw [V_i y1]
        obtain ⟨h1, hr1⟩ := gu_some hr
        obtain ⟨h2, hr2⟩ := gu_some hr1
        obtain ⟨b, h3, hr3⟩ := bd_some hr2
        obtain ⟨h4, hr4⟩ := gu_some hr3
        obtain ⟨cc, h5, hr5⟩ := bd_some hr4
        obtain ⟨h6, hr6⟩ := gu_some hr5
        obtain ⟨l, h7, hr7⟩ := bd_some hr6
        obtain ⟨bs, h8, hr8⟩ := bd_some hr7
        obtain ⟨e1, e2, e3⟩ := rz_inj hr8
        obtain ⟨p', o, k1, k2, k3⟩ := k.ob _ b h3
        rw [hp] at k1; cases k1
        rw [O.C_eq h5] at k3
        obtain ⟨cs, vs, rfl, g2, g3, g4, g5, g6, g7⟩ := k3
        obtain ⟨l1, l2⟩ := getAt_eq h7
        have hl : Vs β l = some ((vs.drop 0).take kk) := by rw [l2]; exact Vs_take kk (Vs_drop 0 g3)
        obtain ⟨b1, b2⟩ := bytesU_ok h8 hl
        have hVl := Vs_len hl
        have h1 := Nat.eq_of_beq_eq_true h1
        have h2 := Nat.le_of_ble_eq_true h2
        have h4 := Nat.le_of_ble_eq_true h4
        have h6 := Nat.eq_of_beq_eq_true h6
        unfold lim at h2
        have hbl : bs.length = l.length := by
          have := congrArg List.length b2
          rw [hVl] at this; simpa using this.symm
        have hll : l.length = kk := by rw [l2, List.length_take, List.length_drop, Nat.min_eq_left (by omega)]
        have hv : V β r.a = some (.string (txt bs)) := by rw [e1]; exact V_smk b1
        refine ⟨β, .string (txt bs), ?_⟩
        by_cases h0 : bs = []
        · refine ⟨w, fun ty => ?_, hv, by rw [e2, e3]; exact Mv.drop k _⟩
          have : l.length = 0 := by rw [← hbl, h0]; rfl
          rw [hll] at this
          subst this
          rw [h0]
          exact uString0 ts ty _ _ (by rw [ht]; rfl)
        · have hat : p.at off = ⟨p.blk, 0, none⟩ := by unfold Pl.at; rw [h1, g7]
          refine ⟨w.freeze ⟨p.blk, 0, none⟩ (bs.map UInt8.ofNat).length, fun ty => ?_, hv, ?_⟩
          · have hts : (Builtin.unsafeString_ ts ty) = (Builtin.unsafeString_ #[T, U] ty) := by
              funext args
              unfold Builtin.unsafeString_
              rw [ht]
              rfl
            have := Lib.run_unsafeString_row (P := P) (w := w) T U ty e he hc p.blk cs.size (by simp [World.shape?, k2, h6]) (bs.map UInt8.ofNat) (by simpa using h0) (by rw [List.length_map]; omega) (by rw [List.length_map]; omega) (fun j x hj => ?_)
            · rw [hat, hts]
              rw [List.length_map, hbl, hll] at this ⊢
              exact this
            · have hlt : j < bs.length := by have := (List.getElem?_eq_some_iff.1 hj).1; simpa using this
              have hb : (bs.map byteV)[j]? = some (byteV bs[j]) := by simp [hlt]
              rw [← b2, List.getElem?_take, List.drop_zero] at hb
              split at hb
              · have hc := g4 j _ hb
                rw [g7, Nat.zero_add] at hc
                have hx : x = UInt8.ofNat bs[j] := by simpa [hlt] using hj.symm
                have hle : bs[j] ≤ 255 := by
                  unfold okS at b1
                  rw [List.all_eq_true] at b1
                  exact Nat.le_of_ble_eq_true (b1 _ (List.getElem_mem hlt))
                have hx2 : (x.toNat : Int) = (bs[j] : Int) := by
                  rw [hx, UInt8.toNat_ofNat', Nat.mod_eq_of_lt (by omega)]
                rw [hx2]
                have ea : (⟨p.blk, 0, none⟩ : Addr).add j = ⟨p.blk, j, none⟩ := by unfold Addr.add; split <;> simp_all
                rw [ea]
                simp [World.cell?, k2, hc, byteV]
              · cases hb
          · rw [e2, e3]
            refine Mv.gone k h3 hp h4 ?_ (fun x hx => ?_) ⟨?_, ?_, ?_, ?_⟩ <;> unfold World.freeze <;> split
            · rfl
            · simp
            · rfl
            · simp [Array.getElem?_modify, Ne.symm hx]
            all_goals first | rfl | exact Nat.le_refl _
      · cases hr
    · cases hr
  · cases hr
end
end Go.Ev
namespace Go.Ev
open Go.RowKit
section
variable {P : Program} {β : Be} {c : Lc} {st : List A} {m : Tr A} {ρ : Operand → Value} {h : Tr B} {n : Po} {w w' : World} {lv : Nat} {r : R} {ih : Ih}
theorem lo_bi (k : Ok β h n w) {b : Builtin} {args : Array Operand} {ts : Array TypeId} (hr0 : (loD P c (.call ⟨.builtin b, args, ts⟩)).f ih lv st m h n = some r)
    (hρ : ∀ z ∈ (Op.call ⟨.builtin b, args, ts⟩).operands, ∀ a, ev c z st m = some a → V β a = some (ρ z)) : Lo1 P lv β h n w (.call ⟨.builtin b, args, ts⟩) ρ r := by
  obtain ⟨xs, h1, hr⟩ := bd_some (show bd (evs c args.toList st m) (fun xs => (biT P b ts).f lv h n xs) = some r from hr0)
  clear hr0
  have hv := evs_ok (β := β) (ρ := ρ) h1 fun x hx => hρ x (by simp only [Op.operands, Call.operands]; simpa using hx)
  have fin : ∀ {f : TypeId → Sem Value}, (∀ ty, execOp ρ ⟨none, .call ⟨.builtin b, args, ts⟩, ty, "", #[], none⟩ = (f ty >>= fun v => pure (Next.value v))) → (∃ β' v w', (∀ ty, (f ty).run P w = .ok v w') ∧ V β' r.a = some v ∧ Mv lv β h n w β' r.h r.n w') → Lo1 P lv β h n w (.call ⟨.builtin b, args, ts⟩) ρ r := by
    rintro f hf ⟨β', v, w', g1, g2, g3⟩
    refine ⟨β', v, .value v, w', fun d ty pos aft gd => ?_, .inl rfl, g2, g3⟩
    show (execOp ρ ⟨none, .call ⟨.builtin b, args, ts⟩, ty, "", #[], none⟩).run P w = _
    rw [hf, Sem.run_bind, g1]; rfl
  have hap : ∀ ty, execOp ρ ⟨none, .call ⟨.builtin b, args, ts⟩, ty, "", #[], none⟩ = builtin b ts ty (args.map fun | .const _ => true | _ => false) (args.toList.map ρ).toArray := fun ty => run_bi rfl
  unfold biT at hr
  split at hr
  · rename_i T U hts
    have hts : ts = #[T, U] := by apply Array.ext'; simpa using hts
    subst hts
    cases b with
    | append =>
      refine fin (f := fun ty => Builtin.append_ #[T, U] ty (args.toList.map ρ).toArray) (fun ty => by rw [hap]; rfl) ?_
      match xs, hv, hr with
      | [x, y], hv, hr =>
        obtain ⟨vx, r1, x1, x2, e1⟩ := Vs_cons hv
        obtain ⟨vy, r2, y1, y2, e2⟩ := Vs_cons x2
        have e3 := Vs_nil_inv y2; subst e3; subst e2; rw [e1]
        exact append_ok k hr x1 y1
      | [], _, hr => cases hr
      | [_], _, hr => cases hr
      | _ :: _ :: _ :: _, _, hr => cases hr
    | copy => exact fin (f := fun ty => Builtin.copy_ #[T, U] ty (args.toList.map ρ).toArray) (fun ty => by rw [hap]; rfl) (copy_ok k hr hv)
    | unsafeSliceData => exact fin (f := fun ty => Builtin.unsafeSliceData_ #[T, U] ty (args.toList.map ρ).toArray) (fun ty => by rw [hap]; rfl) (sliceData_ok k hr hv _)
    | unsafeString => exact fin (f := fun ty => Builtin.unsafeString_ #[T, U] ty (args.toList.map ρ).toArray) (fun ty => by rw [hap]; rfl) (uString k hr hv _ rfl)
    | _ => cases hr
  · rename_i T hts
    have hts : ts = #[T] := by apply Array.ext'; simpa using hts
    subst hts
    split at hr
    · exact fin (f := fun ty => Builtin.unsafeSliceData_ #[T] ty (args.toList.map ρ).toArray) (fun ty => by rw [hap]; rfl) (sliceData_ok k hr hv _)
    · cases hr
  · cases hr
theorem lo_range (k : Ok β h n w) {T : TypeId} {x : Operand} (hr : (loD P c (.range T x)).f ih lv st m h n = some r)
    (hρ : ∀ z ∈ (Op.range T x).operands, ∀ a, ev c z st m = some a → V β a = some (ρ z)) : Lo1 P lv β h n w (.range T x) ρ r := by
  unfold loD at hr
  simp only at hr
  split at hr
  · rename_i hu
    obtain ⟨a, h1, hr⟩ := bd_some hr
    obtain ⟨l, h2, hr⟩ := bd_some hr
    have hx := hρ x (by simp [Op.operands]) _ h1
    rw [A.S_eq h2] at hx
    obtain ⟨hx1, hx⟩ := V_s hx
    obtain ⟨e1, g1⟩ := nw_ok (w' := w.alloc (.stringIter (txt l) 0)) (obj := .stringIter (txt l) 0) (sz := 0) k hr rfl ⟨rfl, rfl, rfl, Nat.le_refl _⟩ ⟨hx1, rfl, rfl⟩
    refine ⟨_, .pointer (some ⟨w.heap.size, 0, none⟩), .value _, _, fun d ty pos aft gd => ?_, .inl rfl, ?_, g1⟩
    · simp only [execOp, hx, Instr.range, Sem.run_bind, run_underlying hu, Result.andThen_ok, Sem.run_pure, run_newObj]
      rfl
    · rw [e1]; show (upB β n _ n).map _ = _; rw [upB_eq]; rfl
  · rename_i kt e hu
    obtain ⟨a, h1, hr⟩ := bd_some hr
    obtain ⟨q, h2, hr⟩ := bd_some hr
    obtain ⟨b, h3, hr⟩ := bd_some hr
    have hx := hρ x (by simp [Op.operands]) _ h1
    rw [A.M_eq h2] at hx
    obtain ⟨p, hp, hx⟩ := V_m hx
    obtain ⟨p', o, k1, k2, k3⟩ := k.ob q b h3
    rw [hp] at k1; cases k1
    split at hr
    · rename_i es ck e0
      rw [e0] at k3
      obtain ⟨ents, rfl, _⟩ := k3
      obtain ⟨e1, g1⟩ := nw_ok (w' := w.alloc (.mapIter (some p.blk) ck #[] ck)) (obj := .mapIter (some p.blk) ck #[] ck) (sz := 0) k hr rfl ⟨rfl, rfl, rfl, Nat.le_refl _⟩ ⟨rfl, p, hp, by simp⟩
      refine ⟨_, .pointer (some ⟨w.heap.size, 0, none⟩), .value _, _, fun d ty pos aft gd => ?_, .inl rfl, ?_, g1⟩
      · have eg : (getObj p.blk).run P w = .ok (.map ents ck) w := by simp [getObj, Sem.run, k2]
        simp only [execOp, hx, Instr.range, Sem.run_bind, run_underlying hu, Result.andThen_ok, Sem.run_pure, run_newObj, eg]
        rfl
      · rw [e1]; show (upB β n _ n).map _ = _; rw [upB_eq]; rfl
    · cases hr
  · cases hr
theorem lo_conv (k : Ok β h n w) {T U : TypeId} {x : Operand} (hr : (loD P c (.convert T U x)).f ih lv st m h n = some r)
    (hρ : ∀ z ∈ (Op.convert T U x).operands, ∀ a, ev c z st m = some a → V β a = some (ρ z)) : Lo1 P lv β h n w (.convert T U x) ρ r := by
  obtain ⟨a, h1, hr⟩ := bd_some (show bd (ev c x st m) (fun a => bd a.S fun l => bd (slB P U) fun e => gu (strB P T) (cn (u8B P e) (nw (.r (asBytes l) e) (.o · 0 l.length 1) lv h n) none)) = some r from hr)
  obtain ⟨l, h2, hr⟩ := bd_some hr
  obtain ⟨e, h3, hr⟩ := bd_some hr
  obtain ⟨h4, hr⟩ := gu_some hr
  rw [cn_eq] at hr
  split at hr
  · rename_i h5
    have hx := hρ x (by simp [Op.operands]) _ h1
    rw [A.S_eq h2] at hx
    obtain ⟨hx1, hx⟩ := V_s hx
    have hs : P.underlying T = some .string := by
      unfold strB at h4
      split at h4
      · assumption
      · cases h4
    have he : P.underlying e = some (.int .u8) := by
      unfold u8B at h5
      split at h5
      · assumption
      · cases h5
    have hrun := Lib.run_convert_string_bytes (P := P) w T U e (txt l) hs (slB_ok h3) he
    have hgc := grownCap_ge w (txt l).size 0 e
    have hcs : (Lib.bytesCells w e (txt l)).size = grownCap w (txt l).size 0 e := by
      have : (txt l).data.size = (txt l).size := rfl
      simp [Lib.bytesCells]; omega
    have hwh : (Lib.bytesWorld w e (txt l)).heap = w.heap.push (.cells (Lib.bytesCells w e (txt l)) e ((Lib.bytesCells w e (txt l)).size, (Lib.bytesCells w e (txt l)).size + 1)) := by
      apply Array.ext_getElem?
      intro j
      rw [Array.getElem?_push]
      split
      · rename_i hj; subst hj; exact Lib.bytesWorld_at_new w e _
      · rename_i hj
        by_cases hlt : j < w.heap.size
        · exact Lib.bytesWorld_at_old w e _ j hlt
        · rw [Array.getElem?_eq_none (by rw [Lib.bytesWorld_size]; omega), Array.getElem?_eq_none (by omega)]
    obtain ⟨e1, g1⟩ := nw_ok (w' := Lib.bytesWorld w e (txt l)) (sz := (Lib.bytesCells w e (txt l)).size) k hr hwh ⟨rfl, rfl, rfl, Nat.le_succ _⟩ ⟨_, _, _, byteCells (txt l), rfl, rfl, byteV_asBytes hx1, fun i v hi => by
      show (Lib.bytesCells w e (txt l))[0 + i]? = some v
      have hlt := (List.getElem?_eq_some_iff.1 hi).1
      rw [byteCells_length] at hlt
      unfold Lib.bytesCells
      rw [Nat.zero_add, Array.getElem?_append_left (by rw [Array.size_map]; exact hlt)]
      unfold byteCells at hi
      simpa using hi, by
      show 0 + (asBytes l).length ≤ (Lib.bytesCells w e (txt l)).size
      rw [hcs]; unfold asBytes; rw [List.length_map]; rw [txt_size] at hgc ⊢; omega⟩
    refine ⟨_, .slice (some ⟨w.heap.size, 0, none⟩) (txt l).size (grownCap w (txt l).size 0 e), .value _, _, fun d ty pos aft gd => ?_, .inl rfl, ?_, g1⟩
    · simp only [execOp, hx, Sem.run_bind, hrun]; rfl
    · rw [e1]
      have hd : (⟨w.heap.size, 0, (Lib.bytesCells w e (txt l)).size⟩ : Pl).size - (0 + 0) = grownCap w (txt l).size 0 e := hcs
      rw [V_omk (upB_eq β n _) (by rw [hd, Nat.div_one]; rw [txt_size] at hgc ⊢; exact hgc)]
      rw [hd, Nat.div_one, txt_size]; rfl
  · cases hr
theorem asc {l : List Nat} {pos c d : Nat} (hl : okS l = true) (h : utf l pos = some (c, d)) : Utf8.decode (txt l) pos = (c, d) := by
  obtain ⟨x, h1, h⟩ := bd_some h
  obtain ⟨h2, h⟩ := gu_some h
  cases Option.some.inj h
  have h2 := Nat.le_of_ble_eq_true h2
  have hlt := (List.getElem?_eq_some_iff.1 h1).1
  have hx := (List.getElem?_eq_some_iff.1 h1).2
  have hp : pos < (txt l).size := by rw [txt_size]; exact hlt
  have e : ((txt l)[pos]'hp) = UInt8.ofNat c := by
    show (txt l).data[pos] = _
    simp [txt, hx]
  have en : ((txt l)[pos]'hp).toNat = c := by rw [e, UInt8.toNat_ofNat', Nat.mod_eq_of_lt (by omega)]
  rw [decode_ascii _ _ hp (by omega), en]
theorem En_filter (f : Nat → Bool) : ∀ {es : List (A × A × Nat)} {ents : List MapEntry}, En β es ents → En β (es.filter fun e => f e.2.2) (ents.filter fun e => f e.born)
  | [], [], _ => trivial
  | (k, v, b) :: es, e :: ents, ⟨h1, h2, h3, h4⟩ => by
    rw [List.filter_cons, List.filter_cons, h3]
    cases f b with
    | true => exact ⟨h1, h2, h3, En_filter f h4⟩
    | false => exact En_filter f h4
  | [], _ :: _, h => h.elim
  | _ :: _, [], h => h.elim
theorem En_all (f : Nat → Bool) : ∀ {es : List (A × A × Nat)} {ents : List MapEntry}, En β es ents → (ents.all fun e => f e.born) = (es.all fun e => f e.2.2)
  | [], [], _ => rfl
  | (k, v, b) :: es, e :: ents, ⟨h1, h2, h3, h4⟩ => by rw [List.all_cons, List.all_cons, h3, En_all f h4]
  | [], _ :: _, h => h.elim
  | _ :: _, [], h => h.elim
theorem En_nil {es : List (A × A × Nat)} {ents : List MapEntry} (h : En β es ents) : ents.isEmpty = es.isEmpty := by
  cases es <;> cases ents <;> first | rfl | exact h.elim
theorem lo_next (k : Ok β h n w) {x : Operand} {str : Bool} (hr0 : (loD P c (.next x str)).f ih lv st m h n = some r)
    (hρ : ∀ z ∈ (Op.next x str).operands, ∀ a, ev c z st m = some a → V β a = some (ρ z)) : Lo1 P lv β h n w (.next x str) ρ r := by
  obtain ⟨a, h1, hr1⟩ := bd_some (show bd (ev c x st m) (fun a => bd a.P fun q => gu (Nat.beq q.2 0) <| bd (h.get q.1) fun b => gu (Nat.ble lv b.lv) (match b.o with
    | .si l pos => gu str <| bif Nat.ble (Nat.succ pos) l.length then bd (utf l pos) fun c => rz (.t [.b true, num pos, .i .i32 (.ofNat c.1)]) (h.put (some ⟨.si l (pos + c.2), b.lv⟩) q.1) n else rz (.t [.b false]) h n
    | .mi p since seen last => gu (!str) <| bd (h.get p) fun d => (match d.o with
      | .m es clock => gu (seen.isEmpty || (es.isEmpty || !(es.all fun e => Nat.ble last e.2.2))) (match nextE es seen with
        | [] => rz (.t [.b false]) h n
        | [e] => gu (Nat.ble (Nat.succ e.2.2) since) <| rz (.t [.b true, e.1, e.2.1]) (h.put (some ⟨.mi p since (e.2.2 :: seen) clock, b.lv⟩) q.1) n
        | _ => none)
      | _ => none)
    | _ => none)) = some r from hr0)
  obtain ⟨q, h2, hr2⟩ := bd_some hr1
  obtain ⟨h3, hr3⟩ := gu_some hr2
  obtain ⟨b, h4, hr4⟩ := bd_some hr3
  obtain ⟨h5, hr5⟩ := gu_some hr4
  clear hr0 hr1 hr2 hr3 hr4
  have h3 := Nat.eq_of_beq_eq_true h3
  have h5 := Nat.le_of_ble_eq_true h5
  have hx := hρ x (by simp [Op.operands]) _ h1
  rw [A.P_eq h2] at hx
  obtain ⟨p, hp, hx⟩ := V_p hx
  obtain ⟨p', o, k1, k2, k3⟩ := k.ob q.1 b h4
  rw [hp] at k1; cases k1
  split at hr5
  · rename_i l pos e0
    rw [e0] at k3
    obtain ⟨g1, rfl, g3⟩ := k3
    have hx : ρ x = .pointer (some ⟨p.blk, 0, none⟩) := by rw [hx]; unfold Pl.at; rw [g3, h3]
    obtain ⟨hs, hr6⟩ := gu_some hr5
    subst hs
    have eg : (getObj p.blk).run P w = .ok (.stringIter (txt l) pos) w := by simp [getObj, Sem.run, k2]
    have es' : ∀ o' : Obj, (setObj p.blk o').run P w = .ok () { w with heap := w.heap.setIfInBounds p.blk o' } := fun o' => by simp [setObj, Sem.run, k2]
    rw [cond_eq_ite] at hr6
    split at hr6
    · rename_i hlt
      have hlt := Nat.le_of_ble_eq_true hlt
      obtain ⟨cc, h6, hr7⟩ := bd_some hr6
      obtain ⟨e1, e2, e3⟩ := rz_inj hr7
      have hd := asc g1 (show utf l pos = some (cc.1, cc.2) from h6)
      refine ⟨β, .tuple #[.bool true, goInt pos, .int .i32 (Int.ofNat cc.1)], .value _, { w with heap := w.heap.setIfInBounds p.blk (.stringIter (txt l) (pos + cc.2)) }, fun d ty pos' aft gd => ?_, .inl rfl, by rw [e1]; rfl, ?_⟩
      · have hps : pos < (txt l).size := by rw [txt_size]; exact hlt
        simp only [execOp, hx, Instr.next, Sem.run_bind, eg, Result.andThen_ok, if_pos hps, hd, es', Sem.run_pure]
        rfl
      · rw [e2, e3]
        exact Mv.put k h4 hp h5 rfl ⟨rfl, rfl, rfl, Nat.le_refl _⟩ ⟨g1, rfl, g3⟩
    · rename_i hlt
      obtain ⟨e1, e2, e3⟩ := rz_inj hr6
      refine ⟨β, .tuple #[.bool false], .value _, w, fun d ty pos' aft gd => ?_, .inl rfl, by rw [e1]; rfl, by rw [e2, e3]; exact Mv.refl k⟩
      have hps : ¬ pos < (txt l).size := by rw [txt_size]; intro e; exact hlt (Nat.ble_eq_true_of_le e)
      simp only [execOp, hx, Instr.next, Sem.run_bind, eg, Result.andThen_ok, if_neg hps, Sem.run_pure]
  · rename_i pm since seen last e0
    rw [e0] at k3
    obtain ⟨g3, pq, g4, rfl⟩ := k3
    have hx : ρ x = .pointer (some ⟨p.blk, 0, none⟩) := by rw [hx]; unfold Pl.at; rw [g3, h3]
    obtain ⟨hs, hr6⟩ := gu_some hr5
    have hs : str = false := by simpa using hs
    subst hs
    obtain ⟨d, h6, hr7⟩ := bd_some hr6
    clear hr5 hr6
    obtain ⟨pm', om, m1, m2, m3⟩ := k.ob pm d h6
    rw [g4] at m1; cases m1
    split at hr7
    · rename_i es clock e1
      rw [e1] at m3
      obtain ⟨ents, rfl, m4⟩ := m3
      obtain ⟨h7, hr8⟩ := gu_some hr7
      have hseen : (seen.reverse.toArray : Array Nat).isEmpty = seen.isEmpty := by cases seen <;> simp
      have hcon : ∀ x, (seen.reverse.toArray : Array Nat).contains x = seen.contains x := fun x => by simp
      have hc0 : (!(seen.reverse.toArray : Array Nat).isEmpty && !ents.isEmpty && ents.all fun x => decide (x.born ≥ last)) = false := by
        have a1 : ents.isEmpty = es.isEmpty := by rw [← En_nil m4]; cases ents with | mk l => cases l <;> rfl
        have a2 : (ents.all fun x => decide (x.born ≥ last)) = es.all fun x => Nat.ble last x.2.2 := by
          rw [← En_all (fun b => Nat.ble last b) m4, ← Array.all_toList]
          congr 1
          funext x
          rw [Bool.eq_iff_iff]
          simp [Nat.ble_eq]
        rw [hseen, a1, a2]
        revert h7
        cases seen.isEmpty <;> cases es.isEmpty <;> cases (es.all fun x => Nat.ble last x.2.2) <;> decide
      have hfil : (ents.filter fun e => !(seen.reverse.toArray : Array Nat).contains e.born).toList = ents.toList.filter fun e => !seen.contains e.born := by
        simp
      have hF := En_filter (fun b => !seen.contains b) m4
      have eg : (getObj p.blk).run P w = .ok (.mapIter (some pq.blk) since seen.reverse.toArray last) w := by simp [getObj, Sem.run, k2]
      have eg2 : (getObj pq.blk).run P w = .ok (.map ents clock) w := by simp [getObj, Sem.run, m2]
      have es' : ∀ o' : Obj, (setObj p.blk o').run P w = .ok () { w with heap := w.heap.setIfInBounds p.blk o' } := fun o' => by simp [setObj, Sem.run, k2]
      have ech : (choose (Question.mapNext 1)).run P w = .ok 0 w := by simp [choose, Sem.run, Question.forced]
      unfold nextE at hr8
      split at hr8
      · rename_i hnil
        rw [hnil] at hF
        have hl : (ents.filter fun e => !(seen.reverse.toArray : Array Nat).contains e.born) = #[] := by
          apply Array.ext'
          rw [hfil]
          revert hF
          cases (ents.toList.filter fun e => !seen.contains e.born) with
          | nil => intro _; rfl
          | cons _ _ => intro h; exact h.elim
        obtain ⟨e1, e2, e3⟩ := rz_inj hr8
        refine ⟨β, .tuple #[.bool false], .value _, w, fun d ty pos' aft gd => ?_, .inl rfl, by rw [e1]; rfl, by rw [e2, e3]; exact Mv.refl k⟩
        simp only [execOp, hx, Instr.next, Sem.run_bind, eg, eg2, Result.andThen_ok, hc0, Bool.false_eq_true, if_false, Sem.run_pure, hl]
        have : (choose (Question.mapNext ((if (Array.filter (fun x : MapEntry => decide (x.born < since)) #[]).isEmpty then #[none] else #[]) ++ (Array.filter (fun x : MapEntry => decide (x.born < since)) #[] ++ Array.filter (fun x : MapEntry => decide (x.born ≥ since)) #[]).map some).size)).run P w = .ok 0 w := by
          simp [choose, Sem.run, Question.forced]
        rw [this]
        simp
      · rename_i e hone
        rw [hone] at hF
        obtain ⟨h8, hr9⟩ := gu_some hr8
        have h8 := Nat.le_of_ble_eq_true h8
        obtain ⟨en, hl, h9, h10, h11⟩ : ∃ en, (ents.filter fun e => !(seen.reverse.toArray : Array Nat).contains e.born) = #[en] ∧ V β e.1 = some en.key ∧ V β e.2.1 = some en.val ∧ en.born = e.2.2 := by
          revert hF
          cases hq : (ents.toList.filter fun e => !seen.contains e.born) with
          | nil => intro h; exact h.elim
          | cons en t => cases t with
            | cons _ _ => intro h; exact h.2.2.2.elim
            | nil => intro h; exact ⟨en, by apply Array.ext'; rw [hfil, hq], h.1, h.2.1, h.2.2.1⟩
        obtain ⟨e1, e2, e3⟩ := rz_inj hr9
        refine ⟨β, .tuple #[.bool true, en.key, en.val], .value _, { w with heap := w.heap.setIfInBounds p.blk (.mapIter (some pq.blk) since (seen.reverse.toArray.push en.born) clock) }, fun d ty pos' aft gd => ?_, .inl rfl, ?_, ?_⟩
        · have hlt : en.born < since := by omega
          have hge : ¬ en.born ≥ since := by omega
          simp only [execOp, hx, Instr.next, Sem.run_bind, eg, eg2, Result.andThen_ok, hc0, Bool.false_eq_true, if_false, Sem.run_pure, hl]
          have f1 : Array.filter (fun x : MapEntry => decide (x.born < since)) #[en] = #[en] := by simp [hlt]
          have f2 : Array.filter (fun x : MapEntry => decide (x.born ≥ since)) #[en] = #[] := by simp [hge, hlt]
          rw [f1, f2]
          have : (choose (Question.mapNext ((if (#[en] : Array MapEntry).isEmpty then #[none] else #[]) ++ (#[en] ++ #[]).map some).size)).run P w = .ok 0 w := by
            simp [choose, Sem.run, Question.forced]
          rw [this]
          simp [es']
        · rw [e1]; exact by unfold V; rw [Vs_mk (show V β (.b true) = some (.bool true) from rfl) (Vs_mk h9 (Vs_mk h10 (show Vs β [] = some [] from rfl)))]; rfl
        · rw [e2, e3]
          exact Mv.put k h4 hp h5 rfl ⟨rfl, rfl, rfl, Nat.le_refl _⟩ ⟨g3, pq, g4, by rw [h11]; simp⟩
      · cases hr8
    · cases hr7
  · cases hr5
end
end Go.Ev
namespace Go.Ev
open Go.RowKit
section
variable {P : Program} {β : Be} {c : Lc} {st : List A} {m : Tr A} {ρ : Operand → Value} {h : Tr B} {n : Po} {w w' : World} {lv : Nat} {r : R} {ih : Ih}
theorem lo_map (k : Ok β h n w) {T : TypeId} {x y z : Operand} {o : Op} (ho : ∀ d ty pos aft gd, execOp ρ ⟨d, o, ty, pos, aft, gd⟩ = (Instr.mapUpdate T (ρ x) (ρ y) (ρ z) >>= fun _ => pure Next.skip))
    (hr : (match mapD P T with
    | none => (⟨fun _ _ _ _ _ _ => none⟩ : Bx Fo)
    | some w => Bx.casesOn w.1 fun eq => ⟨fun _ lv st m h n => bd (ev c x st m) fun a => bd a.M fun q => bd (ev c y st m) fun k => bd (ev c z st m) fun v => mapPut eq lv h n q k v⟩).f ih lv st m h n = some r)
    (hx : ∀ a, ev c x st m = some a → V β a = some (ρ x)) (hy : ∀ a, ev c y st m = some a → V β a = some (ρ y)) (hz : ∀ a, ev c z st m = some a → V β a = some (ρ z)) : Lo1 P lv β h n w o ρ r := by
  split at hr
  · cases hr
  · rename_i q hq
    obtain ⟨a, h1, hr1⟩ := bd_some (show bd (ev c x st m) (fun a => bd a.M fun nm => bd (ev c y st m) fun k => bd (ev c z st m) fun v => mapPut q.1.f lv h n nm k v) = some r from hr)
    obtain ⟨nm, h2, hr2⟩ := bd_some hr1
    obtain ⟨key, h3, hr3⟩ := bd_some hr2
    obtain ⟨v, h4, hr4⟩ := bd_some hr3
    have hx := hx _ h1
    rw [A.M_eq h2] at hx
    obtain ⟨p, hp, hx⟩ := V_m hx
    obtain ⟨w', g1, g2, g3⟩ := map_ok k hq hr4 hp (hy _ h3) (hz _ h4)
    refine ⟨β, undef, .skip, w', fun d ty pos aft gd => ?_, .inr ⟨rfl, rfl⟩, by rw [g2]; rfl, g3⟩
    rw [ho, Sem.run_bind, hx, g1]; rfl
def isCa (o : Op) : Bool := match o with | .call ⟨.value _, _, _⟩ => true | _ => false
theorem lo_ok (k : Ok β h n w) {o : Op} (hc : isCa o = false) (hr : (loD P c o).f ih lv st m h n = some r)
    (hρ : ∀ z ∈ o.operands, ∀ a, ev c z st m = some a → V β a = some (ρ z)) : Lo1 P lv β h n w o ρ r := by
  cases o with
  | store T x y => exact lo_store k hr hρ
  | mapUpdate T x y z => exact lo_map k (fun d ty pos aft gd => rfl) hr (hρ x (by simp [Op.operands])) (hρ y (by simp [Op.operands])) (hρ z (by simp [Op.operands]))
  | insert T x y z => exact lo_map k (fun d ty pos aft gd => rfl) hr (hρ x (by simp [Op.operands])) (hρ y (by simp [Op.operands])) (hρ z (by simp [Op.operands]))
  | range T x => exact lo_range k hr hρ
  | next x s => exact lo_next k hr hρ
  | convert s d x => exact lo_conv k hr hρ
  | call ca =>
    obtain ⟨cl, args, ts⟩ := ca
    cases cl with
    | value f => cases hc
    | builtin b => exact lo_bi k hr hρ
    | _ => cases hr
  | _ => cases hr
end
end Go.Ev
