/-
  An evaluator of programs on given arguments, and that it is right.
-/
import Derived.RangeFuncLeaves
import Derived.RangeFuncSeq
import Derived.OwnWalkIn
import Derived.OrdersIn
import Derived.Sort.LoopGhostIn
import Derived.Scope
import Derived.Test.YtfdgciidfohhgaaGreatDoorE1
set_option linter.all false



namespace Go.Ev

structure Open (F : Fence) : Prop where
  fn : ∀ f, F.fn f
  depth : F.depth = none
  calls : ∀ {n : Nat} {P : Program} {f : FuncId} {args : Array Value} {w : World} {R : Ending → World → Prop}, Calls P f args w R → CallsIn F n P f args w R
theorem open_wide : Open Fence.wide where
  fn := fun _ => trivial
  depth := rfl
  calls := fun h => callsIn_wide.2 h
theorem open_round (l : Nat) : Open (Fence.wide.inRound l) where
  fn := fun _ => trivial
  depth := rfl
  calls := fun h => (callsIn_wide.2 h : CallsIn Fence.wide _ _ _ _ _ _)

def Enters (P : Program) (f : FuncId) : Prop := ∀ (args : Array Value) (w : World), (callFunc f args).run P w = .ok (.enter f args) w
theorem enters_of {P : Program} {f : FuncId} {fn : Func} (h : P.funcs[f]? = some fn) (hn : (fn.name == "runtime.NumGoroutine") = false) (hb : fn.body.isNone = false) : Enters P f := fun args w => by
  have hb' : fn.body ≠ none := by intro e; rw [e] at hb; cases hb
  simp [callFunc, h, hb', beq_eq_false_iff_ne.1 hn]
end Go.Ev
namespace Go.Ev
open Go.RowKit

def Gl (β : Be) (n : Po) : Prop := 128 ≤ n.n ∧ ∀ g, g ≤ 60 → ∃ sz, β (po g) = some ⟨g, 0, sz⟩
theorem poF_n : ∀ (f t k : Nat), t < 2 ^ k → (poF f t).n < 2 ^ (k + 1)
  | 0, t, k, h => by show 1 < _; exact Nat.one_lt_two_pow (by omega)
  | f + 1, t, k, h => by
    unfold poF
    rw [cn_eq, cn_eq]
    split
    · show 1 < _; exact Nat.one_lt_two_pow (by omega)
    · rename_i h0
      have ht : t ≠ 0 := by intro e; subst e; exact h0 rfl
      cases k with
      | zero => omega
      | succ k =>
        have e1 : Nat.shiftRight t 1 = t / 2 := Nat.shiftRight_eq_div_pow t 1
        have ih := poF_n f (Nat.shiftRight t 1) k (by rw [e1]; rw [Nat.pow_succ] at h; omega)
        rw [Nat.pow_succ 2 (k + 1)]
        split
        · rw [Po.n_o]; omega
        · rw [Po.n_i]; omega
theorem po_n {g : Nat} (h : g ≤ 60) : (po g).n < 128 := poF_n g g 6 (by omega)
section
variable {P : Program} {β β' : Be} {h h' : Tr B} {n n' : Po} {w w' : World} {lv : Nat} {X : Nat → Bool}
theorem Gl.mv (g : Gl β n) (k : Mv lv β h n w β' h' n' w') : Gl β' n' :=
  ⟨Nat.le_trans g.1 k.le, fun i hi => by obtain ⟨sz, e⟩ := g.2 i hi; exact ⟨sz, by rw [k.old _ (Nat.lt_of_lt_of_le (po_n hi) g.1)]; exact e⟩⟩

def RS (c : Lc) (β : Be) (st : List A) (m : Tr A) (ts : Array Value) : Prop := ∀ t a, ev c (.tmp t) st m = some a → ∃ v, V β a = some v ∧ ts[t]? = some v
theorem RS.le {c : Lc} {st : List A} {m : Tr A} {ts : Array Value} (k : RS c β st m ts) (hle : Be.le β β') : RS c β' st m ts := fun t a e => by
  obtain ⟨v, h1, h2⟩ := k t a e; exact ⟨v, V_le hle _ _ h1, h2⟩
theorem ev_tmp (X : Nat → Bool) (loc : List Nat) (t : Nat) (st : List A) (m : Tr A) : ev ⟨X, loc⟩ (.tmp t) st m = (match ixD t loc 0 with | some i => get1 i st | none => cn (X t) (m.get (po t)) none) := by
  have e : oaD X loc (.tmp t) = (match ixD t loc 0 with | some i => ⟨fun st _ => get1 i st⟩ | none => cn (X t) ⟨fun _ m => Tr.get (po t) m⟩ ⟨fun _ _ => none⟩) := rfl
  unfold ev
  rw [Bx.co, e]
  cases ixD t loc 0 with
  | some i => rfl
  | none => show (cn (X t) _ _ : Bx Ac).f st m = cn (X t) _ _; cases X t <;> rfl
theorem ixD_S : ∀ (t : Nat) (loc : List Nat) (k : Nat), ixD t loc (k + 1) = (ixD t loc k).map (· + 1)
  | t, [], k => rfl
  | t, d :: loc, k => by
    show cn (Nat.beq d t) (some (k + 1)) (ixD t loc (k + 1 + 1)) = Option.map _ (cn (Nat.beq d t) (some k) (ixD t loc (k + 1)))
    rw [cn_eq, cn_eq, ixD_S t loc (k + 1)]
    split <;> rfl
theorem ev_push (X : Nat → Bool) (loc : List Nat) (d t : Nat) (a : A) (st : List A) (m : Tr A) : ev ⟨X, d :: loc⟩ (.tmp t) (a :: st) m = if d = t then some a else ev ⟨X, loc⟩ (.tmp t) st m := by
  rw [ev_tmp, ev_tmp]
  show (match cn (Nat.beq d t) (some 0) (ixD t loc (0 + 1)) with | some i => get1 i (a :: st) | none => _) = _
  rw [cn_eq, ixD_S]
  by_cases e : d = t
  · subst e
    rw [if_pos (Nat.beq_refl d), if_pos rfl]; rfl
  · rw [if_neg (by intro h; exact e (Nat.eq_of_beq_eq_true h)), if_neg e]
    cases ixD t loc 0 <;> rfl
theorem RS.start {m : Tr A} {ts : Array Value} (k : Sl X β m ts) : RS ⟨X, []⟩ β [] m ts := fun t a e => by
  rw [ev_tmp] at e
  replace e : cn (X t) (m.get (po t)) none = some a := e
  rw [cn_eq] at e
  split at e
  · exact k t a (by assumption) e
  · cases e
theorem RS.push {loc : List Nat} {st : List A} {m : Tr A} {ts : Array Value} (k : RS ⟨X, loc⟩ β st m ts) {d : Nat} (hd : d < ts.size) {a : A} {v : Value} (hv : V β a = some v) : RS ⟨X, d :: loc⟩ β (a :: st) m (ts.setIfInBounds d v) := fun t b e => by
  rw [ev_push] at e
  split at e
  · rename_i h1; subst h1; cases Option.some.inj e
    exact ⟨v, hv, by simp [hd]⟩
  · rename_i h1
    obtain ⟨u, g1, g2⟩ := k t b e
    exact ⟨u, g1, by rw [Array.getElem?_setIfInBounds_ne h1]; exact g2⟩
theorem ev_ok {c : Lc} {st : List A} {m : Tr A} {a : Act} (k : RS c β st m a.tmps) (hg : Gl β n) (x : Operand) (b : A) (e : ev c x st m = some b) : V β b = some (a.eval x) := by
  cases x with
  | tmp t =>
    obtain ⟨v, h1, h2⟩ := k t b e
    rw [h1]; show _ = some (a.tmps.getD t undef); rw [Array.getD_eq_getD_getElem?, h2]; rfl
  | const v => cases Option.some.inj (show some (ofV v) = some b from e); exact V_ofV β v
  | global g =>
    unfold ev oaD at e
    simp only [cn_eq] at e
    split at e
    · rename_i hle
      cases Option.some.inj (show some (A.p (po g) 0) = some b from e)
      obtain ⟨sz, h1⟩ := hg.2 g (Nat.le_of_ble_eq_true hle)
      show (β (po g)).map _ = _; rw [h1]; rfl
    · cases e
  | func f => cases Option.some.inj (show some (A.f f []) = some b from e); rfl
theorem flD_cons (X : Nat → Bool) (t : Nat) (loc : List Nat) (a : A) (st : List A) (m : Tr A) : (flD X (t :: loc)).f (a :: st) m = if X t then ((flD X loc).f st m).put (some a) (po t) else (flD X loc).f st m := by
  show (Bx.casesOn (motive := fun _ => Bx (List A → Tr A → Tr A)) (flD X loc) (fun k => cn (X t) ⟨fun st m => List.casesOn (motive := fun _ => Tr A) st m fun a st => (k st m).put (some a) (po t)⟩ ⟨fun st m => List.casesOn (motive := fun _ => Tr A) st m fun _ st => k st m⟩)).f (a :: st) m = _
  cases flD X loc with
  | mk k =>
    show (cn (X t) (⟨_⟩ : Bx (List A → Tr A → Tr A)) ⟨_⟩).f (a :: st) m = _
    cases X t <;> rfl
theorem fl_get {m : Tr A} {t : Nat} (hX : X t = true) : ∀ {loc : List Nat} {st : List A}, st.length = loc.length → ((flD X loc).f st m).get (po t) = ev ⟨X, loc⟩ (.tmp t) st m
  | [], [], _ => by rw [ev_tmp]; show m.get (po t) = cn (X t) (m.get (po t)) none; rw [hX]; rfl
  | d :: loc, a :: st, hl => by
    have ih := fl_get (m := m) hX (loc := loc) (st := st) (by simpa using hl)
    rw [flD_cons, ev_push]
    by_cases e : d = t
    · subst e
      rw [if_pos hX, Tr.get_put_eq, if_pos rfl]
    · rw [if_neg e, ← ih]
      split
      · rw [Tr.get_put_ne _ _ (fun e2 => e (po_inj e2).symm)]
      · rfl
  | [], _ :: _, h => by cases h
  | _ :: _, [], h => by cases h

theorem fl_ok {m : Tr A} {ts : Array Value} {loc : List Nat} {st : List A} (hl : st.length = loc.length) (k : RS ⟨X, loc⟩ β st m ts) : Sl X β ((flD X loc).f st m) ts := fun t a hX ha => k t a (by rw [← fl_get hX hl]; exact ha)
end
end Go.Ev
namespace Go.Ev
open Go.RowKit

structure OpF (P : Program) (F : Fence) : Prop where
  op : Open F
  rd : ∀ {l : Nat} {f : FuncId} {tmps : Array Value} {asg body : Code} {w : World} {R : Ending → World → Prop}, RoundIn Fence.wide 0 P l f tmps asg body w R → RoundIn F 0 P l f tmps asg body w R
theorem opF_wide (P : Program) : OpF P Fence.wide := ⟨open_wide, fun h => h⟩
theorem opF_round (P : Program) (l : Nat) : OpF P (Fence.wide.inRound l) := ⟨open_round l, fun h => h⟩

def Lb (lv : Nat) (h : Tr B) : Prop := ∀ q x, h.get q = some x → x.lv ≤ lv

def CaP (lv : Nat) (β : Be) (h : Tr B) (n : Po) (w : World) (r : R) (e : Ending) (w' : World) : Prop := ∃ v β', e = .returned v ∧ V β' r.a = some v ∧ Mv lv β h n w β' r.h r.n w'
def CaS (P : Program) (lv : Nat) (g : FuncId) (args : List A) (h : Tr B) (n : Po) (r : R) : Prop := ∀ β w vs, Vs β args = some vs → Ok β h n w → Gl β n → Lb lv h →
  (hasB P g = false ∧ ∃ v β' w', (callFunc g vs.toArray).run P w = .ok (.value v) w' ∧ V β' r.a = some v ∧ Mv lv β h n w β' r.h r.n w') ∨
  ((callFunc g vs.toArray).run P w = .ok (.enter g vs.toArray) w ∧ Calls P g vs.toArray w (CaP lv β h n w r))
def RdS (P : Program) (lv : Nat) (l : Po) (args : List A) (h : Tr B) (n : Po) (r : R) : Prop := ∀ β w vs p, Vs β args = some vs → Ok β h n w → Gl β n → Lb lv h → β l = some p → YieldAt Fence.wide 0 P p.blk vs.toArray w (CaP lv β h n w r)
def IhS (P : Program) (ih : Ih) : Prop := ∀ tk r, ih tk = some r → match tk with
  | .ca lv g args h n => CaS P lv g args h n r
  | .rd lv l args h n => RdS P lv l args h n r
section
variable {P : Program} {β : Be} {c : Lc} {st : List A} {m : Tr A} {h : Tr B} {n : Po} {w : World} {lv : Nat} {r : R} {ih : Ih} {F : Fence} {a : Act} {Q : Exit → Act → World → Prop} {K : Act → World → Prop}
theorem op1_ok {ρ : Operand → Value} (k : Ok β h n w) {o : Op} (hc : isCa o = false) (hr : (opD P c o).f ih lv st m h n = some r)
    (hρ : ∀ z ∈ o.operands, ∀ a, ev c z st m = some a → V β a = some (ρ z)) : Lo1 P lv β h n w o ρ r := by
  unfold opD at hr
  split at hr
  · rename_i g hg
    obtain ⟨b, h1, hr⟩ := bd_some (show bd (g.f st m) (fun a => rz a h n) = some r from hr)
    obtain ⟨e1, e2, e3⟩ := rz_inj hr
    obtain ⟨v, g1, g2⟩ := pu_ok hg h1 hρ
    exact ⟨β, v, .value v, w, fun d ty pos aft gd => g2 w d ty pos aft gd, .inl rfl, by rw [e1]; exact g1, by rw [e2, e3]; exact Mv.refl k⟩
  · split at hr
    · rename_i g hg
      obtain ⟨b, h1, hr⟩ := bd_some (show bd (g.f st m h) (fun a => rz a h n) = some r from hr)
      obtain ⟨e1, e2, e3⟩ := rz_inj hr
      obtain ⟨v, g1, g2⟩ := me_ok k.ob hg h1 hρ
      exact ⟨β, v, .value v, w, fun d ty pos aft gd => g2 d ty pos aft gd, .inl rfl, by rw [e1]; exact g1, by rw [e2, e3]; exact Mv.refl k⟩
    · split at hr
      · rename_i g hg
        obtain ⟨q, h1, hr⟩ := bd_some (show bd (g.f st m) (fun q => nw q.1 q.2 lv h n) = some r from hr)
        obtain ⟨obj, sz, v, g1, g2, g3⟩ := ne_ok (h := h) (n := n) (w := w) hg h1 hρ
        obtain ⟨e1, g4⟩ := nw_ok (w' := w.alloc obj) k hr rfl ⟨rfl, rfl, rfl, Nat.le_refl _⟩ g2
        exact ⟨_, v, .value v, _, fun d ty pos aft gd => g1 d ty pos aft gd, .inl rfl, by rw [e1]; exact g3 _ (upB_eq _ _ _), g4⟩
      · exact lo_ok k hc hr hρ
theorem notDefer {o : Op} (hr : (opD P c o).f ih lv st m h n = some r) : ∀ cl, o ≠ .defer cl := fun cl e => by subst e; cases hr
theorem op_inR (hF : OpF P F) (k : Ok β h n w) (hg : Gl β n) (hL : Lb lv h) (hih : IhS P ih) {o : Oper} (hr : (opD P c o.op).f ih lv st m h n = some r)
    (hρ : ∀ z ∈ o.op.operands, ∀ b, ev c z st m = some b → V β b = some (a.eval z))
    (hK : ∀ β' v w', V β' r.a = some v → Mv lv β h n w β' r.h r.n w' → K (a.put o.dst v) w') : o.wpIn F 0 P a w K Q := by
  unfold Oper.wpIn
  refine ⟨fun f _ => hF.op.fn f, ?_⟩
  rw [Oper.semAt_plain F a.eval o (notDefer hr)]
  cases hc : isCa o.op with
  | false =>
    obtain ⟨β', v, nx, w', g1, g2, g3, g4⟩ := op1_ok k hc hr hρ
    have : (execOp a.eval o).run P w = .ok nx w' := g1 o.dst o.type o.pos o.after o.guard
    rw [this]
    rcases g2 with rfl | ⟨rfl, rfl⟩
    · exact hK β' v w' g3 g4
    · exact hK β' undef w' g3 g4
  | true =>
    obtain ⟨d, op, ty, pos, aft, gd⟩ := o
    simp only at hr hc hρ hK ⊢
    cases op with
    | call cl =>
      obtain ⟨f, args, ts⟩ := cl
      cases f with
      | value f =>
        obtain ⟨x, h1, hr1⟩ := bd_some (show bd (ev c f st m) (fun a => bd (evs c args.toList st m) fun xs => match a with
          | .f g c => ih (.ca lv g (xs ++ c) h n)
          | .y r => ih (.rd lv r xs h n)
          | _ => none) = some r from hr)
        obtain ⟨xs, h2, hr2⟩ := bd_some hr1
        clear hr1 hr
        have hx := hρ f (by simp [Op.operands, Call.operands]) x h1
        have hv := evs_ok (β := β) (ρ := a.eval) h2 fun z hz b e => hρ z (by simp only [Op.operands, Call.operands]; simpa using .inr (by simpa using hz)) b e
        have hd : F.depth.isSome = true → 1 ≤ 0 := fun e => by rw [hF.op.depth] at e; cases e
        have earg : args.map a.eval = (args.toList.map a.eval).toArray := by apply Array.ext'; simp
        split at hr2
        · rename_i g cap
          obtain ⟨cv, c1, c2⟩ := V_f hx
          have erun : (execOp a.eval ⟨d, .call ⟨.value f, args, ts⟩, ty, pos, aft, gd⟩).run P w = (callFunc g (args.toList.map a.eval ++ cv).toArray).run P w := by
            simp only [execOp, resolve, c2, Deferred.ofValue, Sem.run_bind, Sem.run_pure, Result.andThen_ok, invoke, earg]
            congr 2
            simp
          rw [erun]
          rcases hih _ _ hr2 β w _ (Vs_app hv c1) k hg hL with ⟨_, v, β', w', g1, g2, g3⟩ | ⟨g1, g2⟩
          · rw [g1]; exact hK β' v w' g2 g3
          · rw [g1]
            refine ⟨hd, hF.op.calls (g2.mono ?_)⟩
            rintro e w' ⟨v, β', rfl, g3, g4⟩
            exact hK β' v w' g3 g4
        · rename_i l
          obtain ⟨p, hp, c2⟩ := V_y hx
          obtain ⟨fn, tmps, asg, body, g1, g2⟩ := hih _ _ hr2 β w _ p hv k hg hL hp
          have erun : (execOp a.eval ⟨d, .call ⟨.value f, args, ts⟩, ty, pos, aft, gd⟩).run P w = .ok (.round p.blk fn tmps asg body) w := by
            simp only [execOp, resolve, c2, Deferred.ofValue, Sem.run_bind, Sem.run_pure, Result.andThen_ok, invoke, earg]
            simpa using g1
          rw [erun]
          refine ⟨hd, hF.rd (g2.mono ?_)⟩
          rintro e w' ⟨v, β', rfl, g3, g4⟩
          exact hK β' v w' g3 g4
        · cases hr2
      | _ => cases hc
    | _ => cases hc
theorem op_in (hF : OpF P F) (k : Ok β h n w) (hg : Gl β n) (hL : Lb lv h) (hs : RS c β st m a.tmps) (hih : IhS P ih) {o : Oper} (hr : (opD P c o.op).f ih lv st m h n = some r)
    (hK : ∀ β' v w', V β' r.a = some v → Mv lv β h n w β' r.h r.n w' → K (a.put o.dst v) w') : o.wpIn F 0 P a w K Q :=
  op_inR hF k hg hL hih hr (fun z _ b e => ev_ok hs hg z b e) hK
end
end Go.Ev
namespace Go.Ev
open Go.RowKit
section
variable {P : Program} {X : Nat → Bool} {ih : Ih} {lv : Nat} {r : R} {h : Tr B} {n : Po} {m : Tr A} {st : List A}
theorem bd_rz {g : Option A} {k : R → Option R} : bd (bd g fun a => rz a h n) k = bd g fun a => k ⟨.nm, a, .lf, h, n⟩ := by cases g <;> rfl

theorem listD_cons {ops l : List Oper} {o : Oper} {loc : List Nat} (hr : (listD P X ops (o :: l) loc).f ih lv st m h n = some r) :
    (∃ r1, gdD ops o = none ∧ (opD P ⟨X, loc⟩ o.op).f ih lv st m h n = some r1 ∧ (listD P X ops l (pushL o.dst loc)).f ih lv (push o.dst r1.a st) m r1.h r1.n = some r) ∨
    ∃ g t, gdD ops o = some g ∧ wanted ⟨X, loc⟩ g st m = some t ∧
      ((t = true ∧ ∃ r1, (opD P ⟨X, loc⟩ o.op).f ih lv st m h n = some r1 ∧ (listD P X ops l (pushL o.dst loc)).f ih lv (push o.dst r1.a st) m r1.h r1.n = some r) ∨
       (t = false ∧ (opD P ⟨X, loc⟩ o.op).f = (opD P ⟨X, loc⟩ o.op).f ∧ (listD P X ops l (pushL o.dst loc)).f ih lv (push o.dst u0 st) m h n = some r)) := by
  have e : listD P X ops (o :: l) loc = (Bx.casesOn (motive := fun _ => Bx Fo) (listD P X ops l (pushL o.dst loc)) (fun k => match gdD ops o with
    | none => (match puD P ⟨X, loc⟩ o.op with
      | some g => Bx.casesOn g fun g => (match o.dst with
        | some _ => ⟨fun ih lv st m h n => bd (g st m) fun a => k ih lv (a :: st) m h n⟩
        | none => ⟨fun ih lv st m h n => bd (g st m) fun _ => k ih lv st m h n⟩)
      | none => Bx.casesOn (opD P ⟨X, loc⟩ o.op) fun f => ⟨fun ih lv st m h n => bd (f ih lv st m h n) fun r => k ih lv (push o.dst r.a st) m r.h r.n⟩)
    | some g => Bx.casesOn (opD P ⟨X, loc⟩ o.op) fun f => ⟨fun ih lv st m h n => bd (wanted ⟨X, loc⟩ g st m) fun t => cn t (bd (f ih lv st m h n) fun r => k ih lv (push o.dst r.a st) m r.h r.n) (k ih lv (push o.dst u0 st) m h n)⟩)) := rfl
  rw [e] at hr
  clear e
  cases hk : listD P X ops l (pushL o.dst loc) with
  | mk k =>
  rw [hk] at hr
  simp only at hr ⊢
  cases hg : gdD ops o with
  | none =>
    rw [hg] at hr
    refine .inl ?_
    simp only at hr
    unfold opD
    cases hp : puD P ⟨X, loc⟩ o.op with
    | some g =>
      rw [hp] at hr
      cases g with
      | mk g =>
      simp only at hr ⊢
      cases hd : o.dst with
      | some d =>
        rw [hd] at hr
        obtain ⟨a, h1, h2⟩ := bd_some (show bd (g st m) (fun a => k ih lv (a :: st) m h n) = some r from hr)
        refine ⟨⟨.nm, a, .lf, h, n⟩, trivial, ?_, h2⟩
        show bd (g st m) _ = _; rw [h1]; rfl
      | none =>
        rw [hd] at hr
        obtain ⟨a, h1, h2⟩ := bd_some (show bd (g st m) (fun _ => k ih lv st m h n) = some r from hr)
        refine ⟨⟨.nm, a, .lf, h, n⟩, trivial, ?_, h2⟩
        show bd (g st m) _ = _; rw [h1]; rfl
    | none =>
      rw [hp] at hr
      cases hf : opD P ⟨X, loc⟩ o.op with
      | mk f =>
      rw [hf] at hr
      obtain ⟨r1, h1, h2⟩ := bd_some (show bd (f ih lv st m h n) (fun r => k ih lv (push o.dst r.a st) m r.h r.n) = some r from hr)
      unfold opD at hf
      rw [hp] at hf
      simp only at hf ⊢
      rw [hf]
      exact ⟨r1, trivial, h1, h2⟩
  | some g =>
    rw [hg] at hr
    refine .inr ?_
    cases hf : opD P ⟨X, loc⟩ o.op with
    | mk f =>
    rw [hf] at hr
    obtain ⟨t, h1, h2⟩ := bd_some (show bd (wanted ⟨X, loc⟩ g st m) (fun t => cn t (bd (f ih lv st m h n) fun r => k ih lv (push o.dst r.a st) m r.h r.n) (k ih lv (push o.dst u0 st) m h n)) = some r from hr)
    refine ⟨g, t, rfl, h1, ?_⟩
    cases t with
    | true => obtain ⟨r1, h3, h4⟩ := bd_some h2; exact .inl ⟨rfl, r1, h3, h4⟩
    | false => exact .inr ⟨rfl, trivial, h2⟩
end
section
variable {P : Program} {X : Nat → Bool} {ih : Ih} {lv : Nat} {F : Fence} {Q : Exit → Act → World → Prop}

theorem wanted_okR {β : Be} {loc : List Nat} {st : List A} {m : Tr A} {ops : Array Oper} {o : Oper} {ts : Array Value} {g : Option Nat × Bool} (hs : ∀ d, g.1 = some d → ∀ a, ev ⟨X, loc⟩ (.tmp d) st m = some a → ∃ v, V β a = some v ∧ ts[d]? = some v) {t : Bool} (hg : gdD ops.toList o = some g) (hw : wanted ⟨X, loc⟩ g st m = some t) :
    Region.wanted o (yielded ops ts) = t := by
  unfold gdD at hg
  split at hg
  · cases hg
  · rename_i j want he
    have hg' := (Option.some.inj hg).symm
    subst hg'
    obtain ⟨d, h1, hw⟩ := bd_some hw
    obtain ⟨oj, h2, h3⟩ := bd_some (show bd ops.toList[j]? (·.dst) = some d from h1)
    obtain ⟨a, h4, hw⟩ := bd_some hw
    obtain ⟨v, g1, g2⟩ := hs d h1 a h4
    have hy : ∀ b : Option Bool, (match some v with | some (.bool b) => some b | _ => none) = b → yielded ops ts j = b := fun b hb => by
      unfold yielded
      have : ops[j]? = some oj := by simpa using h2
      rw [this]
      show (match Option.bind oj.dst fun x => ts[x]? with | some (.bool b) => some b | _ => none) = b
      rw [h3]
      show (match ts[d]? with | some (.bool b) => some b | _ => none) = b
      rw [g2]; exact hb
    unfold Region.wanted
    rw [he]
    simp only
    split at hw
    · cases Option.some.inj hw
      rw [V_b g1] at hy
      rw [hy _ rfl]; rfl
    · cases Option.some.inj hw
      cases Option.some.inj (show some undef = some v from g1)
      rw [hy none rfl]; rfl
    · cases hw
theorem wanted_ok {β : Be} {loc : List Nat} {st : List A} {m : Tr A} {ops : Array Oper} {o : Oper} {ts : Array Value} (hs : RS ⟨X, loc⟩ β st m ts) {g : Option Nat × Bool} {t : Bool} (hg : gdD ops.toList o = some g) (hw : wanted ⟨X, loc⟩ g st m = some t) :
    Region.wanted o (yielded ops ts) = t := wanted_okR (fun d _ a e => hs d a e) hg hw
theorem put_size (a : Act) (d : Option Tmp) (v : Value) : (a.put d v).tmps.size = a.tmps.size := by cases d <;> simp [Act.put]
theorem put_def (a : Act) (d : Option Tmp) (v : Value) : (a.put d v).defers = a.defers := by cases d <;> rfl
theorem RS.put {β : Be} {loc : List Nat} {st : List A} {m : Tr A} {a : Act} (k : RS ⟨X, loc⟩ β st m a.tmps) {d : Option Tmp} (hd : dOk a.tmps.size d = true) {b : A} {v : Value} (hv : V β b = some v) : RS ⟨X, pushL d loc⟩ β (Go.Ev.push d b st) m (a.put d v).tmps := by
  cases d with
  | none => exact k
  | some d => exact k.push (Nat.le_of_ble_eq_true hd) hv
theorem push_len {d : Option Tmp} {b : A} {st : List A} {loc : List Nat} (h : st.length = loc.length) : (push d b st).length = (pushL d loc).length := by
  cases d with
  | none => exact h
  | some d => show st.length + 1 = loc.length + 1; rw [h]
theorem list_ok (hF : OpF P F) (hih : IhS P ih) {ops : Array Oper} {N : Nat} : ∀ {l : List Oper} {loc : List Nat} {st : List A} {m : Tr A} {h : Tr B} {n : Po} {β : Be} {a : Act} {w : World} {r : R},
    (listD P X ops.toList l loc).f ih lv st m h n = some r → (l.all fun o => dOk N o.dst) = true → a.tmps.size = N → Ok β h n w → Gl β n → Lb lv h → RS ⟨X, loc⟩ β st m a.tmps → st.length = loc.length →
    (∀ β' a' w', r.e = .nm → Sl X β' r.m a'.tmps → a'.tmps.size = N → a'.defers = a.defers → Mv lv β h n w β' r.h r.n w' → Q .normal a' w') → wpListIn F 0 P ops Q l a w
  | [], loc, st, m, h, n, β, a, w, r, hr, _, hN, hk, hg, _, hs, hl, hQ => by
    have hr : (Bx.casesOn (motive := fun _ => Bx Fo) (flD X loc) (fun f => ⟨fun _ _ st m h n => some ⟨.nm, u0, f st m, h, n⟩⟩)).f ih lv st m h n = some r := hr
    cases hf : flD X loc with
    | mk f =>
    rw [hf] at hr
    cases Option.some.inj (show some (⟨.nm, u0, f st m, h, n⟩ : R) = some r from hr)
    have := fl_ok hl hs
    rw [hf] at this
    exact hQ β a w rfl this hN rfl (Mv.refl hk)
  | o :: l, loc, st, m, h, n, β, a, w, r, hr, hd, hN, hk, hg, hL, hs, hl, hQ => by
    rw [List.all_cons, Bool.and_eq_true] at hd
    unfold wpListIn
    have go1 : ∀ r1, (opD P ⟨X, loc⟩ o.op).f ih lv st m h n = some r1 → (listD P X ops.toList l (pushL o.dst loc)).f ih lv (push o.dst r1.a st) m r1.h r1.n = some r → o.wpIn F 0 P a w (wpListIn F 0 P ops Q l) Q := fun r1 h1 h2 =>
      op_in hF hk hg hL hs hih h1 fun β' v w' g1 g2 => by
        have hle := g2.be hk
        exact list_ok hF hih h2 hd.2 (by rw [put_size]; exact hN) g2.ok (hg.mv g2) (g2.lvb lv (Nat.le_refl _) hL) ((hs.le hle).put (by rw [hN]; exact hd.1) g1) (push_len hl) fun β'' a' w'' q1 q2 q3 q4 q5 => hQ β'' a' w'' q1 q2 q3 (by rw [q4, put_def]) (g2.trans q5)
    rcases listD_cons hr with ⟨r1, h0, h1, h2⟩ | ⟨g, t, h0, h1, h2⟩
    · have : Region.wanted o (yielded ops a.tmps) = true := by
        unfold Region.wanted
        unfold gdD at h0
        split at h0
        · rename_i e; rw [e]
        · cases h0
      rw [if_pos this]
      exact go1 r1 h1 h2
    · have hw := wanted_ok (ops := ops) hs h0 h1
      rcases h2 with ⟨rfl, r1, h2, h3⟩ | ⟨rfl, _, h3⟩
      · rw [if_pos hw]; exact go1 r1 h2 h3
      · rw [if_neg (by rw [hw]; decide)]
        refine ⟨fun f _ => hF.op.fn f, ?_⟩
        exact list_ok hF hih h3 hd.2 (by rw [put_size]; exact hN) hk hg hL (hs.put (by rw [hN]; exact hd.1) V_u0) (push_len hl) fun β'' a' w'' q1 q2 q3 q4 q5 => hQ β'' a' w'' q1 q2 q3 (by rw [q4, put_def]) q5
end
end Go.Ev
namespace Go.Ev
open Go.RowKit

theorem bit_eq (m t : Nat) : bit m t = m.testBit t := by
  have e1 : Nat.land (Nat.shiftRight m t) 1 = (m >>> t) % 2 := Nat.and_one_is_mod _
  unfold bit
  rw [e1, Nat.testBit_eq_decide_div_mod_eq, Nat.shiftRight_eq_div_pow]
  have := Nat.mod_two_eq_zero_or_one (m / 2 ^ t)
  rcases this with h | h <;> rw [h] <;> rfl
theorem bit_or (a b t : Nat) : bit (Nat.lor a b) t = (bit a t || bit b t) := by
  rw [bit_eq, bit_eq, bit_eq]; exact Nat.testBit_or a b t
theorem bit_one (k t : Nat) : bit (Nat.shiftLeft 1 k) t = decide (k = t) := by
  rw [bit_eq]
  have : Nat.shiftLeft 1 k = 2 ^ k := Nat.one_shiftLeft k
  rw [this, Nat.testBit_two_pow]
theorem bit_zero (t : Nat) : bit 0 t = false := by rw [bit_eq]; exact Nat.zero_testBit t

theorem dmA_bit {acc : List Nat} {j : Nat} : ∀ {es : List Edge}, bit (dmA acc es) j = true → ∃ e ∈ es, Region.binds .any e = true ∧ (e.on = j ∨ bit (acc.getD e.on 0) j = true)
  | [], h => by rw [show dmA acc [] = 0 from rfl, bit_zero] at h; cases h
  | e :: es, h => by
    have e1 : dmA acc (e :: es) = cn (Region.binds .any e) (Nat.lor (dmA acc es) (Nat.lor (Nat.shiftLeft 1 e.on) (acc.getD e.on 0))) (dmA acc es) := rfl
    rw [e1, cn_eq] at h
    split at h
    · rename_i hb
      rw [bit_or, bit_or, bit_one, Bool.or_eq_true, Bool.or_eq_true] at h
      rcases h with h | h | h
      · obtain ⟨x, h1, h2⟩ := dmA_bit h; exact ⟨x, by simp [h1], h2⟩
      · exact ⟨e, by simp, hb, .inl (by simpa using h)⟩
      · exact ⟨e, by simp, hb, .inr h⟩
    · obtain ⟨x, h1, h2⟩ := dmA_bit h; exact ⟨x, by simp [h1], h2⟩
theorem dmA_mk {acc : List Nat} {j : Nat} {e : Edge} : ∀ {es : List Edge}, e ∈ es → Region.binds .any e = true → (e.on = j ∨ bit (acc.getD e.on 0) j = true) → bit (dmA acc es) j = true
  | x :: es, h, hb, hj => by
    have e1 : dmA acc (x :: es) = cn (Region.binds .any x) (Nat.lor (dmA acc es) (Nat.lor (Nat.shiftLeft 1 x.on) (acc.getD x.on 0))) (dmA acc es) := rfl
    rw [e1, cn_eq]
    rcases List.mem_cons.1 h with rfl | h
    · rw [if_pos hb, bit_or, bit_or, bit_one]
      rcases hj with hj | hj
      · rw [show decide (e.on = j) = true from decide_eq_true hj, Bool.true_or, Bool.or_true]
      · rw [hj, Bool.or_true, Bool.or_true]
    · have := dmA_mk h hb hj
      split
      · rw [bit_or, this]; rfl
      · exact this
theorem dms_pre : ∀ (l : List Oper) (acc : List Nat), ∃ r, dms l acc = acc ++ r ∧ r.length = l.length
  | [], acc => ⟨[], by show acc = _; simp, rfl⟩
  | o :: l, acc => by
    obtain ⟨r, h1, h2⟩ := dms_pre l (acc ++ [dmA acc o.after.toList])
    exact ⟨dmA acc o.after.toList :: r, by show dms l (acc ++ [dmA acc o.after.toList]) = _; rw [h1]; simp, by simp [h2]⟩
theorem dms_at : ∀ (l : List Oper) (acc : List Nat) (i : Nat) (o : Oper), l[i]? = some o → (dms l acc).getD (acc.length + i) 0 = dmA ((dms l acc).take (acc.length + i)) o.after.toList
  | [], acc, i, o, h => by cases h
  | x :: l, acc, 0, o, h => by
    cases Option.some.inj h
    obtain ⟨r, h1, _⟩ := dms_pre l (acc ++ [dmA acc x.after.toList])
    have e : dms (x :: l) acc = acc ++ dmA acc x.after.toList :: r := by show dms l (acc ++ [dmA acc x.after.toList]) = _; rw [h1]; simp
    rw [e]; simp
  | x :: l, acc, i + 1, o, h => by
    have := dms_at l (acc ++ [dmA acc x.after.toList]) i o (by simpa using h)
    rw [List.length_append, List.length_singleton, Nat.add_assoc, Nat.add_comm 1 i] at this
    exact this
theorem getD_take {l : List Nat} {n i : Nat} (h : i < n) : (l.take n).getD i 0 = l.getD i 0 := by
  simp [List.getD, List.getElem?_take, h]

structure Rg (P : Program) (ops : List Oper) (D : Nat → Nat) : Prop where
  lt : ∀ {k j}, k < ops.length → bit (D k) j = true → j < k
  ex : ∀ {k j : Nat} {o : Oper}, ops[k]? = some o → bit (D k) j = true → ∃ e ∈ o.after.toList, Region.binds .any e = true ∧ (e.on = j ∨ bit (D e.on) j = true)
  mkk : ∀ {k j : Nat} {o : Oper}, ops[k]? = some o → ∀ e ∈ o.after.toList, Region.binds .any e = true → (e.on = j ∨ bit (D e.on) j = true) → bit (D k) j = true
  on : ∀ {k : Nat} {o : Oper}, ops[k]? = some o → ∀ e ∈ o.after.toList, Region.binds .any e = true → e.on < k
  sl : ∀ {k : Nat} {o : Oper} {t : Nat}, ops[k]? = some o → t ∈ slotsOf ops o → t < 1000000
  ds : ∀ {i j : Nat} {o q : Oper} {d : Nat}, ops[i]? = some o → ops[j]? = some q → i ≠ j → q.dst = some d → o.dst ≠ some d
  rd : ∀ {i j : Nat} {o q : Oper} {d : Nat}, ops[i]? = some o → ops[j]? = some q → i ≠ j → q.dst = some d → d ∈ slotsOf ops o → bit (D i) j = true ∨ bit (D j) i = true
  ld : ∀ {i j : Nat} {o q : Oper}, ops[i]? = some o → ops[j]? = some q → i < j → loud P o.op = true → loud P q.op = true → bit (D j) i = true
theorem okR_ok {P : Program} {ops : List Oper} (h : okR P ops (dms ops []) (ops.map fun o => loud P o.op) = true) : Rg P ops (fun k => (dms ops []).getD k 0) := by
  unfold okR at h
  rw [List.all_eq_true] at h
  have h1 : ∀ {i o}, ops[i]? = some o → (∀ e ∈ o.after.toList, Region.binds .any e = true → e.on < i) ∧ (∀ t ∈ slotsOf ops o, t < 1000000) ∧ ∀ {j q}, ops[j]? = some q → i ≠ j →
      (∀ t, q.dst = some t → o.dst ≠ some t ∧ (t ∈ slotsOf ops o → bit ((dms ops []).getD i 0) j = true ∨ bit ((dms ops []).getD j 0) i = true)) ∧ (i < j → loud P o.op = true → loud P q.op = true → bit ((dms ops []).getD j 0) i = true) := fun {i o} ho => by
    have hlt := (List.getElem?_eq_some_iff.1 ho).1
    have g := h i (List.mem_range.2 hlt)
    rw [ho] at g
    simp only [Bool.and_eq_true, List.all_eq_true] at g
    refine ⟨fun e he hb => ?_, fun t ht => Nat.le_of_ble_eq_true (g.2.1 t ht), fun {j q} hq hij => ?_⟩
    · have := g.1 e he
      rw [hb] at this
      exact Nat.le_of_ble_eq_true (by simpa using this)
    · have hjl := (List.getElem?_eq_some_iff.1 hq).1
      have g2 := g.2.2 j (List.mem_range.2 hjl)
      rw [hq] at g2
      simp only [Bool.or_eq_true, Bool.and_eq_true] at g2
      rcases g2 with g2 | ⟨g2, g3⟩
      · exact absurd (Nat.eq_of_beq_eq_true g2) hij
      · refine ⟨fun t ht => ?_, fun h1 h2 h3 => ?_⟩
        · rw [ht] at g2
          simp only [Bool.and_eq_true, Bool.or_eq_true, Bool.not_eq_true', List.any_eq_false] at g2
          refine ⟨fun e => ?_, fun hs => ?_⟩
          · rw [e] at g2
            have := g2.1
            replace this : Nat.beq t t = false := this
            rw [Nat.beq_refl t] at this; cases this
          · rcases g2.2 with g4 | g4
            · exact absurd (Nat.beq_refl t) (g4 t hs)
            · exact g4
        · rcases g3 with g3 | g3
          · have e1 : (ops.map fun o => loud P o.op).getD i false = true := by simp [List.getD, ho, h2]
            have e2 : (ops.map fun o => loud P o.op).getD j false = true := by simp [List.getD, hq, h3]
            rw [e1, e2, Nat.ble_eq_true_of_le h1] at g3
            cases g3
          · exact g3
  have hat : ∀ {k o}, ops[k]? = some o → (dms ops []).getD k 0 = dmA ((dms ops []).take k) o.after.toList := fun {k o} ho => by
    have := dms_at ops [] k o ho
    simpa using this
  have hex : ∀ {k j o}, ops[k]? = some o → bit ((dms ops []).getD k 0) j = true → ∃ e ∈ o.after.toList, Region.binds .any e = true ∧ (e.on = j ∨ bit ((dms ops []).getD e.on 0) j = true) := fun {k j o} ho hb => by
    rw [hat ho] at hb
    obtain ⟨e, e1, e2, e3⟩ := dmA_bit hb
    rw [getD_take ((h1 ho).1 e e1 e2)] at e3
    exact ⟨e, e1, e2, e3⟩
  refine ⟨fun {k j} hk hb => ?_, hex, fun {k j o} ho e he hb hj => ?_, fun ho => (h1 ho).1, fun ho ht => (h1 ho).2.1 _ ht, fun ho hq hij hd => (((h1 ho).2.2 hq hij).1 _ hd).1, fun ho hq hij hd => (((h1 ho).2.2 hq hij).1 _ hd).2, fun ho hq hij => ((h1 ho).2.2 hq (by omega)).2 hij⟩
  · induction k using Nat.strongRecOn generalizing j with
    | _ k ih =>
      obtain ⟨o, ho⟩ : ∃ o, ops[k]? = some o := ⟨ops[k], by simp [hk]⟩
      obtain ⟨e, e1, e2, e3⟩ := hex ho hb
      have hlt := (h1 ho).1 e e1 e2
      rcases e3 with e3 | e3
      · omega
      · have := ih e.on hlt (by omega) e3; omega
  · rw [hat ho]
    refine dmA_mk he hb ?_
    rw [getD_take ((h1 ho).1 e he hb)]; exact hj
theorem Rg.tr {P : Program} {ops : List Oper} {D : Nat → Nat} (g : Rg P ops D) {k j i : Nat} (hk : k < ops.length) (h1 : bit (D k) j = true) (h2 : bit (D j) i = true) : bit (D k) i = true := by
  induction k using Nat.strongRecOn with
  | _ k ih =>
    obtain ⟨o, ho⟩ : ∃ o, ops[k]? = some o := ⟨ops[k], by simp [hk]⟩
    obtain ⟨e, e1, e2, e3⟩ := g.ex ho h1
    have hlt := g.on ho e e1 e2
    refine g.mkk ho e e1 e2 (.inr ?_)
    rcases e3 with rfl | e3
    · exact h2
    · exact ih e.on hlt (by omega) e3
end Go.Ev
namespace Go.Ev
open Go.RowKit


noncomputable def rs (β : Be) (n : Po) : Be := fun q => if q.n < n.n then β q else none
theorem rs_le (β : Be) (n : Po) : Be.le (rs β n) β := fun q p h => by
  unfold rs at h; split at h
  · exact h
  · cases h
theorem rs_mono {β β' : Be} {n n' : Po} (h : n.n ≤ n'.n) (k : ∀ q : Po, q.n < n.n → ∀ p, β q = some p → β' q = some p) : Be.le (rs β n) (rs β' n') := fun q p e => by
  unfold rs at e ⊢
  split at e
  · rename_i hlt; rw [if_pos (by omega)]; exact k q hlt p e
  · cases e
theorem rs_lt {β : Be} {n q : Po} (h : q.n < n.n) : rs β n q = β q := if_pos h
theorem rs_ge {β : Be} {n q : Po} (h : n.n ≤ q.n) : rs β n q = none := if_neg (by omega)
theorem map_rs {β : Be} {n q : Po} (h : nmP n q = true) {f : Pl → Value} {v : Value} (e : (β q).map f = some v) : (rs β n q).map f = some v := by
  rw [rs_lt (Nat.le_of_ble_eq_true h)]; exact e
mutual
theorem nmB_ok {β : Be} {n : Po} : ∀ (a : A) (v : Value), nmB n a = true → V β a = some v → V (rs β n) a = some v
  | .i _ _, _, _, e => e
  | .b _, _, _, e => e
  | .s _, _, _, e => e
  | .k _, _, _, e => e
  | .p q _, _, h, e => by unfold nmB at h; exact map_rs h e
  | .l q _ _ _, _, h, e => by unfold nmB at h; exact map_rs h e
  | .o q _ _ _, _, h, e => by
    unfold nmB at h
    unfold V at e ⊢
    rw [rs_lt (Nat.le_of_ble_eq_true h)]; exact e
  | .m q, _, h, e => by unfold nmB at h; exact map_rs h e
  | .y q, _, h, e => by unfold nmB at h; exact map_rs h e
  | .f _ l, _, h, e => by
    unfold nmB at h
    unfold V at e ⊢
    obtain ⟨r, h1, h2⟩ := Option.map_eq_some_iff.1 e
    rw [nmBs_ok l r h h1]; exact congrArg some h2
  | .g l, _, h, e => by
    unfold nmB at h
    unfold V at e ⊢
    obtain ⟨r, h1, h2⟩ := Option.map_eq_some_iff.1 e
    rw [nmBs_ok l r h h1]; exact congrArg some h2
  | .t l, _, h, e => by
    unfold nmB at h
    unfold V at e ⊢
    obtain ⟨r, h1, h2⟩ := Option.map_eq_some_iff.1 e
    rw [nmBs_ok l r h h1]; exact congrArg some h2
theorem nmBs_ok {β : Be} {n : Po} : ∀ (l : List A) (vs : List Value), nmBs n l = true → Vs β l = some vs → Vs (rs β n) l = some vs
  | [], _, _, e => e
  | a :: l, vs, h, e => by
    unfold nmBs at h
    rw [Bool.and_eq_true] at h
    obtain ⟨v, r, h1, h2, rfl⟩ := Vs_cons e
    exact Vs_mk (nmB_ok a v h.1 h1) (nmBs_ok l r h.2 h2)
end

theorem sameV_eq {a b : Value} (h : sameV a b = true) : a = b := by
  unfold sameV at h
  split at h
  · rfl
  · rw [Bool.and_eq_true] at h; rw [Nat.eq_of_beq_eq_true h.1, Nat.eq_of_beq_eq_true h.2]
  · rfl
  · rfl
  · rfl
  · cases h
mutual
theorem same_eq : ∀ (a b : A), same a b = true → a = b
  | .i k n, b, h => by
    unfold same at h; cases b <;> simp only [Bool.and_eq_true, Bool.false_eq_true] at h
    obtain ⟨h1, h2⟩ := h
    rw [sameK_eq h1]; rw [eqI_eq, beq_iff_eq] at h2; rw [h2]
  | .b x, b, h => by
    unfold same at h; cases b <;> simp only [Bool.false_eq_true] at h
    rw [beq_iff_eq] at h; rw [h]
  | .s x, b, h => by
    unfold same at h; cases b <;> simp only [Bool.false_eq_true] at h
    rw [eqL_eq h]
  | .k x, b, h => by
    unfold same at h; cases b <;> simp only [Bool.false_eq_true] at h
    rw [sameV_eq h]
  | .p n o, b, h => by
    unfold same at h; cases b <;> simp only [Bool.and_eq_true, Bool.false_eq_true] at h
    rw [Po.eq_eq h.1, Nat.eq_of_beq_eq_true h.2]
  | .l n o x y, b, h => by
    unfold same at h; cases b <;> simp only [Bool.and_eq_true, Bool.false_eq_true] at h
    rw [Po.eq_eq h.1, Nat.eq_of_beq_eq_true h.2.1, Nat.eq_of_beq_eq_true h.2.2.1, Nat.eq_of_beq_eq_true h.2.2.2]
  | .o n o x y, b, h => by
    unfold same at h; cases b <;> simp only [Bool.and_eq_true, Bool.false_eq_true] at h
    rw [Po.eq_eq h.1, Nat.eq_of_beq_eq_true h.2.1, Nat.eq_of_beq_eq_true h.2.2.1, Nat.eq_of_beq_eq_true h.2.2.2]
  | .m n, b, h => by
    unfold same at h; cases b <;> simp only [Bool.false_eq_true] at h
    rw [Po.eq_eq h]
  | .y n, b, h => by unfold same at h; cases b <;> simp only [Bool.false_eq_true] at h
  | .f g l, b, h => by
    unfold same at h; cases b <;> simp only [Bool.and_eq_true, Bool.false_eq_true] at h
    rw [Nat.eq_of_beq_eq_true h.1, sames_eq _ _ h.2]
  | .g l, b, h => by
    unfold same at h; cases b <;> simp only [Bool.false_eq_true] at h
    rw [sames_eq _ _ h]
  | .t l, b, h => by
    unfold same at h; cases b <;> simp only [Bool.false_eq_true] at h
    rw [sames_eq _ _ h]
theorem sames_eq : ∀ (l r : List A), sames l r = true → l = r
  | [], [], _ => rfl
  | a :: l, b :: r, h => by
    unfold sames at h
    rw [Bool.and_eq_true] at h
    rw [same_eq a b h.1, sames_eq l r h.2]
  | [], _ :: _, h => by unfold sames at h; cases h
  | _ :: _, [], h => by unfold sames at h; cases h
end

theorem act_get {mask : Nat} {q : Po} {b : B} : ∀ {v : Vw}, (act mask v).get q = some b → (∃ x ∈ v.pd, bit mask x.j = true ∧ x.n = q ∧ x.b = b) ∨ v.h.get q = some b := by
  rintro ⟨h, pd⟩ hb
  induction pd with
  | nil => exact .inr hb
  | cons x pd ih =>
    have e : act mask ⟨h, x :: pd⟩ = cn (bit mask x.j) ((act mask ⟨h, pd⟩).put (some x.b) x.n) (act mask ⟨h, pd⟩) := rfl
    rw [e, cn_eq] at hb
    split at hb
    · rename_i hm
      rcases Tr.get_put _ hb with ⟨e1, e2⟩ | ⟨_, e2⟩
      · exact .inl ⟨x, by simp, hm, e1.symm, Option.some.inj e2⟩
      · rcases ih e2 with ⟨y, y1, y2⟩ | y
        · exact .inl ⟨y, by simp at y1 ⊢; exact .inr y1, y2⟩
        · exact .inr y
    · rcases ih hb with ⟨y, y1, y2⟩ | y
      · exact .inl ⟨y, by simp at y1 ⊢; exact .inr y1, y2⟩
      · exact .inr y
theorem actA_get {q : Po} {b : B} : ∀ {v : Vw}, (actA v).get q = some b → (∃ x ∈ v.pd, x.n = q ∧ x.b = b) ∨ v.h.get q = some b := by
  rintro ⟨h, pd⟩ hb
  induction pd with
  | nil => exact .inr hb
  | cons x pd ih =>
    rcases Tr.get_put _ (show ((actA ⟨h, pd⟩).put (some x.b) x.n).get q = some b from hb) with ⟨e1, e2⟩ | ⟨_, e2⟩
    · exact .inl ⟨x, by simp, e1.symm, Option.some.inj e2⟩
    · rcases ih e2 with ⟨y, y1, y2⟩ | y
      · exact .inl ⟨y, by simp at y1 ⊢; exact .inr y1, y2⟩
      · exact .inr y
theorem rst_mem {mask : Nat} {x : Pn} : ∀ {pd : List Pn}, x ∈ rst mask pd → x ∈ pd ∧ bit mask x.j = false
  | [], h => by cases h
  | y :: pd, h => by
    have e : rst mask (y :: pd) = cn (bit mask y.j) (rst mask pd) (y :: rst mask pd) := rfl
    rw [e, cn_eq] at h
    split at h
    · obtain ⟨h1, h2⟩ := rst_mem h; exact ⟨by simp [h1], h2⟩
    · rename_i hm
      rcases List.mem_cons.1 h with rfl | h
      · exact ⟨by simp, by simpa using hm⟩
      · obtain ⟨h1, h2⟩ := rst_mem h; exact ⟨by simp [h1], h2⟩
theorem ckM_ok {dm : Nat} {v : Vw} {x : Ms} : ∀ {ms : List Ms}, ckM dm v ms = true → x ∈ ms → bit dm x.j = true ∨ x.g (act x.mask v) = some x.a
  | y :: ms, h, hx => by
    have e : ckM dm v (y :: ms) = cn (bit dm y.j) (ckM dm v ms) (Option.casesOn (y.g (act y.mask v)) false fun a => cn (same a y.a) (ckM dm v ms) false) := rfl
    rw [e, cn_eq] at h
    split at h
    · rename_i hb
      rcases List.mem_cons.1 hx with rfl | hx
      · exact .inl hb
      · exact ckM_ok h hx
    · cases hg : y.g (act y.mask v) with
      | none => rw [hg] at h; cases h
      | some a =>
        rw [hg] at h
        replace h : cn (same a y.a) (ckM dm v ms) false = true := h
        rw [cn_eq] at h
        split at h
        · rename_i hs
          rcases List.mem_cons.1 hx with rfl | hx
          · exact .inr (by rw [hg, same_eq _ _ hs])
          · exact ckM_ok h hx
        · cases h

theorem ckE_ok {g : Tr B → Option A} {mask : Nat} {a : A} {x : Hv} : ∀ {l l' : List Hv}, ckE g mask a (l ++ x :: l') = true → (∀ y ∈ l, bit mask y.j = false) → bit mask x.j = false → g (act mask x.v) = some a
  | [], l', h, _, hx => by
    have e : ckE g mask a ([] ++ x :: l') = cn (bit mask x.j) true (Option.casesOn (g (act mask x.v)) false fun a' => cn (same a' a) (ckE g mask a l') false) := rfl
    rw [e, cn_eq, hx, if_neg (by decide)] at h
    cases hg : g (act mask x.v) with
    | none => rw [hg] at h; cases h
    | some b =>
      rw [hg] at h
      replace h : cn (same b a) (ckE g mask a l') false = true := h
      rw [cn_eq] at h
      split at h
      · rename_i hs; rw [same_eq _ _ hs]
      · cases h
  | y :: l, l', h, hl, hx => by
    have e : ckE g mask a (y :: l ++ x :: l') = cn (bit mask y.j) true (Option.casesOn (g (act mask y.v)) false fun a' => cn (same a' a) (ckE g mask a (l ++ x :: l')) false) := rfl
    rw [e, cn_eq, hl y (by simp), if_neg (by decide)] at h
    cases hg : g (act mask y.v) with
    | none => rw [hg] at h; cases h
    | some b =>
      rw [hg] at h
      replace h : cn (same b a) (ckE g mask a (l ++ x :: l')) false = true := h
      rw [cn_eq] at h
      split at h
      · exact ckE_ok h (fun z hz => hl z (by simp [hz])) hx
      · cases h
end Go.Ev
namespace Go.Ev
open Go.RowKit
section
variable {P : Program}
theorem pu_c (c c' : Lc) (o : Op) : (puD P c o).isNone = (puD P c' o).isNone := by
  unfold puD; split <;> first | rfl | (split <;> rfl)
theorem me_c (c c' : Lc) (o : Op) : (meD P c o).isNone = (meD P c' o).isNone := by
  unfold meD; split <;> first | rfl | (split <;> rfl)
theorem ne_c (c c' : Lc) (o : Op) : (neD P c o).isNone = (neD P c' o).isNone := by
  unfold neD; split <;> first | rfl | (split <;> rfl)
theorem loud_c (c : Lc) (o : Op) : loud P o = ((puD P c o).isNone && (meD P c o).isNone && (neD P c o).isNone) := by
  unfold loud; rw [pu_c _ c, me_c _ c, ne_c _ c]

def Wnt (X : Nat → Bool) (ops : List Oper) (loc : List Nat) (o : Oper) (st : List A) (m : Tr A) : Prop := gdD ops o = none ∨ ∃ g, gdD ops o = some g ∧ wanted ⟨X, loc⟩ g st m = some true

inductive SK (P : Program) (ih : Ih) (lv : Nat) (m : Tr A) (X : Nat → Bool) (ops : List Oper) (i dm : Nat) (lt : Bool) (loc : List Nat) (o : Oper) (z : Z) : Z → Prop
  | off (g : Option Nat × Bool) (h1 : gdD ops o = some g) (h2 : wanted ⟨X, loc⟩ g z.st m = some false) : SK P ih lv m X ops i dm lt loc o z ⟨u0 :: z.st, z.v, z.n, (cn (loud P o.op) (⟨i, z.v⟩ :: z.hs) z.hs), z.ms⟩
  | pu (g : Bx Ac) (a : A) (h0 : Wnt X ops loc o z.st m) (h1 : puD P ⟨X, loc⟩ o.op = some g) (h2 : g.f z.st m = some a) : SK P ih lv m X ops i dm lt loc o z ⟨a :: z.st, z.v, z.n, z.hs, z.ms⟩
  | me (g : Bx Me) (a : A) (h0 : Wnt X ops loc o z.st m) (h1 : puD P ⟨X, loc⟩ o.op = none) (h2 : meD P ⟨X, loc⟩ o.op = some g) (h3 : g.f z.st m (act dm z.v) = some a) (h4 : nmB z.n a = true) (h5 : ckE (g.f z.st m) dm a z.hs = true) : SK P ih lv m X ops i dm lt loc o z ⟨a :: z.st, z.v, z.n, z.hs, cn lt (⟨i, g.f z.st m, dm, a⟩ :: z.ms) z.ms⟩
  | ne (g : Bx (List A → Tr A → Option (O × (Po → A)))) (q : O × (Po → A)) (h0 : Wnt X ops loc o z.st m) (h1 : puD P ⟨X, loc⟩ o.op = none) (h2 : meD P ⟨X, loc⟩ o.op = none) (h3 : neD P ⟨X, loc⟩ o.op = some g) (h4 : g.f z.st m = some q) : SK P ih lv m X ops i dm lt loc o z ⟨q.2 z.n :: z.st, ⟨z.v.h, ⟨i, z.n, ⟨q.1, lv⟩⟩ :: z.v.pd⟩, z.n.s, z.hs, z.ms⟩
  | lo (r : R) (h0 : Wnt X ops loc o z.st m) (h1 : loud P o.op = true) (h2 : (opD P ⟨X, loc⟩ o.op).f ih lv z.st m (act dm z.v) z.n = some r) (h3 : ckM dm ⟨r.h, rst dm z.v.pd⟩ z.ms = true) (h4 : z.n.n ≤ r.n.n) : SK P ih lv m X ops i dm lt loc o z ⟨r.a :: z.st, ⟨r.h, rst dm z.v.pd⟩, r.n, ⟨i, z.v⟩ :: z.hs, z.ms⟩
theorem stepZ_sk {ih : Ih} {lv : Nat} {m : Tr A} {X : Nat → Bool} {ops : List Oper} {i dm : Nat} {lt : Bool} {loc : List Nat} {o : Oper} {z z' : Z} (h0 : Wnt X ops loc o z.st m) (h : (stepZ P ⟨X, loc⟩ o.op i dm lt).f ih lv m z = some z') : SK P ih lv m X ops i dm lt loc o z z' := by
  unfold stepZ at h
  cases hp : puD P ⟨X, loc⟩ o.op with
  | some g =>
    rw [hp] at h
    obtain ⟨a, h1, h2⟩ := bd_some (show bd (g.f z.st m) (fun a => some ⟨a :: z.st, z.v, z.n, z.hs, z.ms⟩) = some z' from h)
    cases Option.some.inj h2
    exact .pu g a h0 hp h1
  | none =>
    rw [hp] at h
    cases hm : meD P ⟨X, loc⟩ o.op with
    | some g =>
      simp only [hm] at h
      obtain ⟨a, h1, h2⟩ := bd_some (show bd (g.f z.st m (act dm z.v)) (fun a => gu (nmB z.n a) <| gu (ckE (g.f z.st m) dm a z.hs) (some ⟨a :: z.st, z.v, z.n, z.hs, cn lt (⟨i, g.f z.st m, dm, a⟩ :: z.ms) z.ms⟩)) = some z' from h)
      obtain ⟨h3, h2⟩ := gu_some h2
      obtain ⟨h4, h2⟩ := gu_some h2
      cases Option.some.inj h2
      exact .me g a h0 hp hm h1 h3 h4
    | none =>
      simp only [hm] at h
      cases hn : neD P ⟨X, loc⟩ o.op with
      | some g =>
        simp only [hn] at h
        obtain ⟨q, h1, h2⟩ := bd_some (show bd (g.f z.st m) (fun q => some ⟨q.2 z.n :: z.st, ⟨z.v.h, ⟨i, z.n, ⟨q.1, lv⟩⟩ :: z.v.pd⟩, z.n.s, z.hs, z.ms⟩) = some z' from h)
        cases Option.some.inj h2
        exact .ne g q h0 hp hm hn h1
      | none =>
        simp only [hn] at h
        obtain ⟨r, h1, h2⟩ := bd_some (show bd ((loD P ⟨X, loc⟩ o.op).f ih lv z.st m (act dm z.v) z.n) (fun r => gu (Nat.ble z.n.n r.n.n) <| gu (ckM dm ⟨r.h, rst dm z.v.pd⟩ z.ms) (some ⟨r.a :: z.st, ⟨r.h, rst dm z.v.pd⟩, r.n, ⟨i, z.v⟩ :: z.hs, z.ms⟩)) = some z' from h)
        obtain ⟨h4, h2⟩ := gu_some h2
        obtain ⟨h3, h2⟩ := gu_some h2
        cases Option.some.inj h2
        refine .lo r h0 (by rw [loud_c ⟨X, loc⟩, hp, hm, hn]; rfl) ?_ h3 (Nat.le_of_ble_eq_true h4)
        unfold opD
        rw [hp]; simp only [hm, hn]; exact h1
theorem stepG_sk {ih : Ih} {lv : Nat} {m : Tr A} {X : Nat → Bool} {ops : List Oper} {i dm : Nat} {lt : Bool} {loc : List Nat} {o : Oper} {z z' : Z} (h : (stepG P X loc ops o i dm lt).f ih lv m z = some z') : SK P ih lv m X ops i dm lt loc o z z' := by
  unfold stepG at h
  cases hg : gdD ops o with
  | none => rw [hg] at h; exact stepZ_sk (.inl hg) h
  | some g =>
    rw [hg] at h
    obtain ⟨t, h1, h2⟩ := bd_some (show bd (wanted ⟨X, loc⟩ g z.st m) (fun t => cn t ((stepZ P ⟨X, loc⟩ o.op i dm lt).f ih lv m z) (some ⟨u0 :: z.st, z.v, z.n, (cn (loud P o.op) (⟨i, z.v⟩ :: z.hs) z.hs), z.ms⟩)) = some z' from h)
    cases t with
    | true => exact stepZ_sk (.inr ⟨g, hg, h1⟩) h2
    | false => cases Option.some.inj (show some (⟨u0 :: z.st, z.v, z.n, (cn (loud P o.op) (⟨i, z.v⟩ :: z.hs) z.hs), z.ms⟩ : Z) = some z' from h2); exact .off g hg h1
theorem drawL_tr {ih : Ih} {lv : Nat} {m : Tr A} {X : Nat → Bool} {ops : List Oper} {D : List Nat} {ls : List Bool} : ∀ {l : List Oper} {k : Nat} {loc : List Nat} {z zL : Z}, (drawL P X ops D ls l k loc).f ih lv m z = some zL →
    ∃ zf : Nat → Z, zf k = z ∧ zf (k + l.length) = zL ∧ ∀ i o, l[i]? = some o → SK P ih lv m X ops (k + i) (D.getD (k + i) 0) (anyL ls D (k + i)) (((l.take i).map dstN).reverse ++ loc) o (zf (k + i)) (zf (k + i + 1))
  | [], k, loc, z, zL, h => by
    cases Option.some.inj (show some z = some zL from h)
    exact ⟨fun _ => z, rfl, rfl, fun i o ho => by cases ho⟩
  | o :: l, k, loc, z, zL, h => by
    obtain ⟨z1, h1, h2⟩ := bd_some (show bd ((stepG P X loc ops o k (D.getD k 0) (anyL ls D k)).f ih lv m z) (fun z => (drawL P X ops D ls l (k + 1) (dstN o :: loc)).f ih lv m z) = some zL from h)
    obtain ⟨zf, e1, e2, e3⟩ := drawL_tr h2
    refine ⟨fun i => if i = k then z else zf i, if_pos rfl, ?_, fun i p hp => ?_⟩
    · simp only [List.length_cons]
      rw [if_neg (by omega), ← e2]; congr 1; omega
    · cases i with
      | zero =>
        cases Option.some.inj hp
        simp only [Nat.add_zero, if_true]
        rw [if_neg (by omega), e1]
        exact stepG_sk h1
      | succ i =>
        have := e3 i p (by simpa using hp)
        simp only
        rw [if_neg (by omega), if_neg (by omega), show k + (i + 1) = k + 1 + i by omega]
        have el : (List.map dstN (List.take (i + 1) (o :: l))).reverse ++ loc = (List.map dstN (List.take i l)).reverse ++ dstN o :: loc := by simp
        rw [el]
        exact this
end
end Go.Ev
namespace Go.Ev
open Go.RowKit

structure Tc where
  P : Program
  ih : Ih
  lv : Nat
  m : Tr A
  X : Nat → Bool
  ops : List Oper
  D : Nat → Nat
  lt : Nat → Bool
  zf : Nat → Z
namespace Tc
variable (c : Tc)
noncomputable section
def loc (i : Nat) : List Nat := ((c.ops.take i).map dstN).reverse
def cx (i : Nat) : Lc := ⟨c.X, c.loc i⟩
def st (i : Nat) : List A := (c.zf i).st
def n (i : Nat) : Po := (c.zf i).n
def vw (i : Nat) : Vw := (c.zf i).v
def W (i : Nat) (o : Oper) : Prop := c.ops[i]? = some o ∧ Wnt c.X c.ops (c.loc i) o (c.st i) c.m
def Off (i : Nat) : Prop := ∃ o g, c.ops[i]? = some o ∧ gdD c.ops o = some g ∧ wanted (c.cx i) g (c.st i) c.m = some false ∧ c.zf (i + 1) = ⟨u0 :: c.st i, c.vw i, c.n i, (cn (loud c.P o.op) (⟨i, c.vw i⟩ :: (c.zf i).hs) (c.zf i).hs), (c.zf i).ms⟩
def Pure (i : Nat) : Prop := ∃ o g a, c.W i o ∧ puD c.P (c.cx i) o.op = some g ∧ g.f (c.st i) c.m = some a ∧ c.zf (i + 1) = ⟨a :: c.st i, c.vw i, c.n i, (c.zf i).hs, (c.zf i).ms⟩
def Rd (i : Nat) (g : Tr B → Option A) (a : A) : Prop := ∃ o g', c.W i o ∧ puD c.P (c.cx i) o.op = none ∧ meD c.P (c.cx i) o.op = some g' ∧ g = g'.f (c.st i) c.m ∧ g (act (c.D i) (c.vw i)) = some a ∧ nmB (c.n i) a = true ∧ ckE g (c.D i) a (c.zf i).hs = true ∧
  c.zf (i + 1) = ⟨a :: c.st i, c.vw i, c.n i, (c.zf i).hs, cn (c.lt i) (⟨i, g, c.D i, a⟩ :: (c.zf i).ms) (c.zf i).ms⟩
def New (i : Nat) (x : Pn) : Prop := ∃ o g q, c.W i o ∧ puD c.P (c.cx i) o.op = none ∧ meD c.P (c.cx i) o.op = none ∧ neD c.P (c.cx i) o.op = some g ∧ g.f (c.st i) c.m = some q ∧ x = ⟨i, c.n i, ⟨q.1, c.lv⟩⟩ ∧
  c.zf (i + 1) = ⟨q.2 (c.n i) :: c.st i, ⟨(c.vw i).h, x :: (c.vw i).pd⟩, (c.n i).s, (c.zf i).hs, (c.zf i).ms⟩
def Ld (i : Nat) (r : R) : Prop := ∃ o, c.W i o ∧ loud c.P o.op = true ∧ (opD c.P (c.cx i) o.op).f c.ih c.lv (c.st i) c.m (act (c.D i) (c.vw i)) (c.n i) = some r ∧ ckM (c.D i) ⟨r.h, rst (c.D i) (c.vw i).pd⟩ (c.zf i).ms = true ∧ (c.n i).n ≤ r.n.n ∧
  c.zf (i + 1) = ⟨r.a :: c.st i, ⟨r.h, rst (c.D i) (c.vw i).pd⟩, r.n, ⟨i, c.vw i⟩ :: (c.zf i).hs, (c.zf i).ms⟩

structure Ok : Prop where
  rg : Rg c.P c.ops c.D
  sk : ∀ i o, c.ops[i]? = some o → SK c.P c.ih c.lv c.m c.X c.ops i (c.D i) (c.lt i) (c.loc i) o (c.zf i) (c.zf (i + 1))
  hs : (c.zf 0).hs = []
  ms : (c.zf 0).ms = []
  pd : (c.zf 0).v.pd = []
  st0 : (c.zf 0).st = []
  ltt : ∀ i l o, i < l → c.ops[l]? = some o → loud c.P o.op = true → bit (c.D l) i = false → c.lt i = true
variable {c}
theorem Ok.step (k : c.Ok) {i : Nat} (hi : i < c.ops.length) : c.Off i ∨ c.Pure i ∨ (∃ g a, c.Rd i g a) ∨ (∃ x, c.New i x) ∨ ∃ r, c.Ld i r := by
  obtain ⟨o, ho⟩ : ∃ o, c.ops[i]? = some o := ⟨c.ops[i], by simp [hi]⟩
  have h := k.sk i o ho
  generalize e : c.zf (i + 1) = z' at h
  cases h with
  | off g h1 h2 => exact .inl ⟨o, g, ho, h1, h2, e⟩
  | pu g a h0 h1 h2 => exact .inr (.inl ⟨o, g, a, ⟨ho, h0⟩, h1, h2, e⟩)
  | me g a h0 h1 h2 h3 h4 h5 => exact .inr (.inr (.inl ⟨_, a, o, g, ⟨ho, h0⟩, h1, h2, rfl, h3, h4, h5, e⟩))
  | ne g q h0 h1 h2 h3 h4 => exact .inr (.inr (.inr (.inl ⟨_, o, g, q, ⟨ho, h0⟩, h1, h2, h3, h4, rfl, e⟩)))
  | lo r h0 h1 h2 h3 h4 => exact .inr (.inr (.inr (.inr ⟨r, o, ⟨ho, h0⟩, h1, h2, h3, h4, e⟩)))
theorem Ld.loud {i : Nat} {r : R} (h : c.Ld i r) : ∃ o, c.ops[i]? = some o ∧ loud c.P o.op = true := by
  obtain ⟨o, h1, h2, _⟩ := h; exact ⟨o, h1.1, h2⟩
theorem Ok.n1 (k : c.Ok) {i : Nat} (hi : i < c.ops.length) : (c.n i).n ≤ (c.n (i + 1)).n := by
  rcases k.step hi with ⟨o, g, _, _, _, e⟩ | ⟨o, g, a, _, _, _, e⟩ | ⟨g, a, o, g', _, _, _, _, _, _, _, e⟩ | ⟨x, o, g, q, _, _, _, _, _, _, e⟩ | ⟨r, o, _, _, _, _, h, e⟩ <;> unfold Tc.n <;> rw [e]
  · exact Nat.le_refl _
  · exact Nat.le_refl _
  · exact Nat.le_refl _
  · simp only [Po.n_s]; unfold Tc.n; omega
  · exact h
theorem Ok.nle (k : c.Ok) {i j : Nat} (h : i ≤ j) (hj : j ≤ c.ops.length) : (c.n i).n ≤ (c.n j).n := by
  induction j with
  | zero => have : i = 0 := by omega
            subst this; exact Nat.le_refl _
  | succ j ih =>
    by_cases e : i = j + 1
    · subst e; exact Nat.le_refl _
    · exact Nat.le_trans (ih (by omega) (by omega)) (k.n1 (by omega))
theorem New.n {i : Nat} {x : Pn} (h : c.New i x) : c.n (i + 1) = (c.n i).s ∧ x.j = i ∧ x.n = c.n i ∧ x.b.lv = c.lv ∧ i < c.ops.length := by
  obtain ⟨o, g, q, h1, _, _, _, _, e1, e⟩ := h
  subst e1
  exact ⟨by unfold Tc.n; rw [e]; rfl, rfl, rfl, rfl, (List.getElem?_eq_some_iff.1 h1.1).1⟩
theorem Ok.new_inj (k : c.Ok) {i j : Nat} {x y : Pn} (h : c.New i x) (h' : c.New j y) (e : x.n = y.n) : i = j := by
  obtain ⟨a1, a2, a3, _, a4⟩ := h.n
  obtain ⟨b1, b2, b3, _, b4⟩ := h'.n
  have key : ∀ {i j : Nat}, c.n (i + 1) = (c.n i).s → i < j → j < c.ops.length → (c.n i).n < (c.n j).n := fun {i j} e1 hij hj => by
    have := k.nle (i := i + 1) (j := j) (by omega) (by omega)
    rw [e1, Po.n_s] at this; omega
  rw [a3, b3] at e
  rcases Nat.lt_trichotomy i j with g | g | g
  · have := key a1 g b4; rw [e] at this; omega
  · exact g
  · have := key b1 g a4; rw [e] at this; omega
theorem New.uniq {i : Nat} {x y : Pn} (h : c.New i x) (h' : c.New i y) : x = y := by
  obtain ⟨o, g, q, h1, h2, h3, h4, h5, h6, _⟩ := h
  obtain ⟨o', g', q', h1', h2', h3', h4', h5', h6', _⟩ := h'
  have e := h1.1.symm.trans h1'.1
  cases Option.some.inj e
  rw [h4] at h4'; cases Option.some.inj h4'
  rw [h5] at h5'; cases Option.some.inj h5'
  rw [h6, h6']

theorem Ok.pend (k : c.Ok) {j : Nat} (hj : j ≤ c.ops.length) {x : Pn} (hx : x ∈ (c.vw j).pd) : x.j < j ∧ c.New x.j x ∧ ∀ l r, c.Ld l r → l < j → bit (c.D l) x.j = false := by
  induction j generalizing x with
  | zero => unfold Tc.vw at hx; rw [k.pd] at hx; cases hx
  | succ j ih =>
    replace ih := fun x => @ih (by omega) x
    have old : ∀ {y : Pn}, y ∈ (c.vw j).pd → (∀ r, ¬ c.Ld j r) → y.j < j + 1 ∧ c.New y.j y ∧ ∀ l r, c.Ld l r → l < j + 1 → bit (c.D l) y.j = false := fun {y} hy hn => by
      obtain ⟨h1, h2, h3⟩ := ih _ hy
      refine ⟨by omega, h2, fun l r hl hlt => ?_⟩
      by_cases e : l = j
      · subst e; exact absurd hl (hn r)
      · exact h3 l r hl (by omega)
    have quiet : ∀ o, c.ops[j]? = some o → (¬ (puD c.P (c.cx j) o.op = none ∧ meD c.P (c.cx j) o.op = none ∧ neD c.P (c.cx j) o.op = none)) → ∀ r, ¬ c.Ld j r := fun o ho hq r hl => by
      obtain ⟨o', h1, h2⟩ := hl.loud
      rw [ho] at h1; cases Option.some.inj h1
      rw [loud_c (c.cx j)] at h2
      simp only [Bool.and_eq_true, Option.isNone_iff_eq_none] at h2
      exact hq ⟨h2.1.1, h2.1.2, h2.2⟩
    rcases k.step (i := j) (by omega) with ⟨o, g, h1, h2, h3, e⟩ | ⟨o, g, a, h1, h2, _, e⟩ | ⟨g, a, o, g', h1, _, h2, _, _, _, _, e⟩ | ⟨y, hn⟩ | ⟨r, o, h1, h2, h3, h4, h5, e⟩
    · unfold Tc.vw at hx; rw [e] at hx
      refine old hx fun r hl => ?_
      obtain ⟨o', h1', _⟩ := hl
      obtain ⟨h4, h5⟩ := h1'
      rw [h1] at h4
      cases Option.some.inj h4
      rcases h5 with h5 | ⟨g', h5, h6⟩
      · rw [h2] at h5; cases h5
      · rw [h2] at h5; cases Option.some.inj h5
        unfold Tc.cx at h3; rw [h3] at h6; cases h6
    · unfold Tc.vw at hx; rw [e] at hx
      exact old hx (quiet o h1.1 fun h => by rw [h2] at h; cases h.1)
    · unfold Tc.vw at hx; rw [e] at hx
      exact old hx (quiet o h1.1 fun h => by rw [h2] at h; cases h.2.1)
    · have hn' := hn
      obtain ⟨o, g, q, h1, _, _, h2, _, _, e⟩ := hn
      unfold Tc.vw at hx; rw [e] at hx
      rcases List.mem_cons.1 hx with rfl | hx
      · obtain ⟨_, e2, _, _, _⟩ := hn'.n
        refine ⟨by omega, by rw [e2]; exact hn', fun l r hl hlt => ?_⟩
        rw [e2]
        cases hb : bit (c.D l) j with
        | false => rfl
        | true =>
          obtain ⟨o', h1', _⟩ := hl.loud
          have := k.rg.lt (List.getElem?_eq_some_iff.1 h1').1 hb
          omega
      · exact old hx (quiet o h1.1 fun h => by rw [h2] at h; cases h.2.2)
    · unfold Tc.vw at hx; rw [e] at hx
      obtain ⟨g1, g2⟩ := rst_mem hx
      obtain ⟨i1, i2, i3⟩ := ih _ g1
      refine ⟨by omega, i2, fun l r' hl hlt => ?_⟩
      by_cases e : l = j
      · subst e; exact g2
      · exact i3 l r' hl (by omega)

theorem Ok.still (k : c.Ok) {i j : Nat} (h : i ≤ j) (hj : j ≤ c.ops.length) (hn : ∀ l r, i ≤ l → l < j → ¬ c.Ld l r) : (c.vw j).h = (c.vw i).h := by
  induction j with
  | zero => have : i = 0 := by omega
            subst this; rfl
  | succ j ih =>
    by_cases e : i = j + 1
    · subst e; rfl
    · have ih := ih (by omega) (by omega) fun l r h1 h2 => hn l r h1 (by omega)
      rw [← ih]
      rcases k.step (i := j) (by omega) with ⟨o, g, _, _, _, e⟩ | ⟨o, g, a, _, _, _, e⟩ | ⟨g, a, o, g', _, _, _, _, _, _, _, e⟩ | ⟨x, o, g, q, _, _, _, _, _, _, e⟩ | ⟨r, hl⟩
      · unfold Tc.vw; rw [e]; rfl
      · unfold Tc.vw; rw [e]; rfl
      · unfold Tc.vw; rw [e]; rfl
      · unfold Tc.vw; rw [e]; rfl
      · exact absurd hl (hn j r (by omega) (by omega))

theorem Ok.views (k : c.Ok) {j l : Nat} {o : Oper} (hj : j ≤ c.ops.length) (hlj : l < j) (ho : c.ops[l]? = some o) (hl : loud c.P o.op = true) : ∃ l1 l2, (c.zf j).hs = l1 ++ ⟨l, c.vw l⟩ :: l2 ∧ ∀ y ∈ l1, l < y.j ∧ y.j < j ∧ ∃ o', c.ops[y.j]? = some o' ∧ loud c.P o'.op = true := by
  induction j with
  | zero => omega
  | succ j ih =>
    obtain ⟨oj, hoj⟩ : ∃ o, c.ops[j]? = some o := ⟨c.ops[j]'(by omega), by simp⟩
    have hhs : (c.zf (j + 1)).hs = (cn (loud c.P oj.op) (⟨j, c.vw j⟩ :: (c.zf j).hs) (c.zf j).hs) := by
      have h := k.sk j oj hoj
      generalize e : c.zf (j + 1) = z' at h
      cases h with
      | off g h1 h2 => rfl
      | pu g a h0 h1 h2 => rw [loud_c ⟨c.X, c.loc j⟩, h1]; rfl
      | me g a h0 h1 h2 h3 h4 h5 => rw [loud_c ⟨c.X, c.loc j⟩, h1, h2]; rfl
      | ne g q h0 h1 h2 h3 h4 => rw [loud_c ⟨c.X, c.loc j⟩, h1, h2, h3]; rfl
      | lo r h0 h1 h2 h3 h4 => rw [h1]; rfl
    by_cases e : l = j
    · subst e
      rw [hoj] at ho; cases Option.some.inj ho
      rw [hhs, hl]
      exact ⟨[], _, rfl, fun y hy => by cases hy⟩
    · obtain ⟨l1, l2, g1, g2⟩ := ih (by omega) (by omega)
      rw [hhs, cn_eq]
      split
      · rename_i hlo
        refine ⟨⟨j, c.vw j⟩ :: l1, l2, by rw [g1]; rfl, fun y hy => ?_⟩
        rcases List.mem_cons.1 hy with rfl | hy
        · exact ⟨by simp only; omega, by simp only; omega, oj, hoj, hlo⟩
        · obtain ⟨a1, a2, a3⟩ := g2 y hy; exact ⟨a1, by omega, a3⟩
      · exact ⟨l1, l2, g1, fun y hy => by obtain ⟨a1, a2, a3⟩ := g2 y hy; exact ⟨a1, by omega, a3⟩⟩

theorem Ok.marks (k : c.Ok) {i j : Nat} {g : Tr B → Option A} {a : A} (h : c.Rd i g a) (hlt : c.lt i = true) (hij : i < j) (hj : j ≤ c.ops.length) : ⟨i, g, c.D i, a⟩ ∈ (c.zf j).ms := by
  induction j with
  | zero => omega
  | succ j ih =>
    by_cases e : i = j
    · subst e
      obtain ⟨o, g', _, _, _, _, _, _, _, e⟩ := h
      rw [e, hlt]
      show _ ∈ (⟨i, g, c.D i, a⟩ : Ms) :: _
      simp
    · have ih := ih (by omega) (by omega)
      rcases k.step (i := j) (by omega) with ⟨o, g, _, _, _, e⟩ | ⟨o, g, a, _, _, _, e⟩ | ⟨g', a', o, g'', _, _, _, _, _, _, _, e⟩ | ⟨x, o, g, q, _, _, _, _, _, _, e⟩ | ⟨r, o, _, _, _, _, _, e⟩
      · rw [e]; exact ih
      · rw [e]; exact ih
      · rw [e]
        show _ ∈ cn (c.lt j) (_ :: (c.zf j).ms) (c.zf j).ms
        rw [cn_eq]; split
        · exact List.mem_cons_of_mem _ ih
        · exact ih
      · rw [e]; exact ih
      · rw [e]; exact ih
end
end Tc
end Go.Ev
namespace Go.Ev
open Go.RowKit
namespace Tc
variable {c : Tc}
noncomputable section
def val (c : Tc) (i : Nat) : A := match (c.zf (i + 1)).st with | [] => u0 | a :: _ => a
theorem Ok.st1 (k : c.Ok) {i : Nat} (hi : i < c.ops.length) : c.st (i + 1) = c.val i :: c.st i := by
  unfold val Tc.st
  rcases k.step hi with ⟨o, g, _, _, _, e⟩ | ⟨o, g, a, _, _, _, e⟩ | ⟨g, a, o, g', _, _, _, _, _, _, _, e⟩ | ⟨x, o, g, q, _, _, _, _, _, _, e⟩ | ⟨r, o, _, _, _, _, _, e⟩ <;> rw [e] <;> rfl
theorem loc1 {i : Nat} {o : Oper} (ho : c.ops[i]? = some o) : c.loc (i + 1) = dstN o :: c.loc i := by
  unfold Tc.loc
  rw [List.take_succ, ho]; simp
theorem Ok.len (k : c.Ok) {i : Nat} (hi : i ≤ c.ops.length) : (c.st i).length = (c.loc i).length := by
  induction i with
  | zero => unfold Tc.st Tc.loc; rw [k.st0]; rfl
  | succ i ih =>
    have : c.ops[i]? = some (c.ops[i]'(by omega)) := by simp
    rw [k.st1 (by omega), loc1 this]; simp [ih (by omega)]
theorem Ok.ev_none (k : c.Ok) {t : Nat} (ht : t ≠ 1000000) {j : Nat} (hj : j ≤ c.ops.length) (h : ∀ i o, i < j → c.ops[i]? = some o → o.dst ≠ some t) : ev (c.cx j) (.tmp t) (c.st j) c.m = cn (c.X t) (c.m.get (po t)) none := by
  induction j with
  | zero => unfold Tc.cx Tc.st; rw [k.st0, ev_tmp]; rfl
  | succ j ih =>
    have hoj : c.ops[j]? = some (c.ops[j]'(by omega)) := by simp
    unfold Tc.cx
    rw [loc1 hoj, k.st1 (by omega), ev_push, if_neg]
    · exact ih (by omega) fun i o hi ho => h i o (by omega) ho
    · have := h j _ (by omega) hoj
      unfold dstN
      cases hd : (c.ops[j]'(by omega)).dst with
      | none => simp only; omega
      | some d => rw [hd] at this; simp only; intro e; exact this (by rw [e])
theorem Ok.ev_some (k : c.Ok) {t i : Nat} {o : Oper} (ho : c.ops[i]? = some o) (hd : o.dst = some t) (ht : t ≠ 1000000) {j : Nat} (hj : j ≤ c.ops.length) (hij : i < j) : ev (c.cx j) (.tmp t) (c.st j) c.m = some (c.val i) := by
  induction j with
  | zero => omega
  | succ j ih =>
    have hoj : c.ops[j]? = some (c.ops[j]'(by omega)) := by simp
    unfold Tc.cx
    rw [loc1 hoj, k.st1 (by omega), ev_push]
    by_cases e : i = j
    · subst e
      rw [ho] at hoj; cases Option.some.inj hoj
      rw [if_pos (by unfold dstN; rw [hd])]
    · rw [if_neg]
      · exact ih (by omega) (by omega)
      · have := k.rg.ds hoj ho (fun e' => e e'.symm) hd
        unfold dstN
        cases hd : (c.ops[j]'(by omega)).dst with
        | none => simp only; omega
        | some d => rw [hd] at this; simp only; intro e; exact this (by rw [e])

theorem Ok.read_ahead (k : c.Ok) {i l : Nat} {g : Tr B → Option A} {a : A} {o : Oper} (h : c.Rd i g a) (hli : l < i) (ho : c.ops[l]? = some o) (hl : loud c.P o.op = true) (hb : bit (c.D i) l = false) : g (act (c.D i) (c.vw l)) = some a := by
  obtain ⟨oi, g', h1, h2, h3, h4, h5, h6, h7, h8⟩ := h
  have hi := (List.getElem?_eq_some_iff.1 h1.1).1
  obtain ⟨l1, l2, e1, e2⟩ := k.views (j := i) (by omega) hli ho hl
  rw [e1] at h7
  refine ckE_ok (x := ⟨l, c.vw l⟩) h7 (fun y hy => ?_) hb
  obtain ⟨y1, y2, o', y3, y4⟩ := e2 y hy
  cases hby : bit (c.D i) y.j with
  | false => rfl
  | true =>
    have := k.rg.ld ho y3 y1 hl y4
    rw [k.rg.tr hi hby this] at hb; cases hb

theorem Ok.read_behind (k : c.Ok) {i j : Nat} {g : Tr B → Option A} {a : A} (h : c.Rd i g a) (hij : i < j) (hj : j ≤ c.ops.length) (hb : ∀ l r, c.Ld l r → i < l → l < j → bit (c.D l) i = false) :
    ∃ j', j' ≤ j ∧ (c.vw j').h = (c.vw j).h ∧ (∀ l r, c.Ld l r → j' ≤ l → l < j → False) ∧ g (act (c.D i) (c.vw j')) = some a := by
  induction j with
  | zero => omega
  | succ j ih =>
    by_cases e : i = j
    · subst e
      have h' := h
      obtain ⟨oi, g', h1, h2, h3, h4, h5, h6, h7, h8⟩ := h
      refine ⟨i, by omega, by unfold Tc.vw; rw [h8]; rfl, fun l r hl h1' h2' => ?_, h5⟩
      have : l = i := by omega
      subst this
      obtain ⟨o', g1, g2⟩ := hl.loud
      rw [h1.1] at g1; cases Option.some.inj g1
      rw [loud_c (c.cx l), h3] at g2
      simp at g2
    · obtain ⟨j', i1, i2, i3, i4⟩ := ih (by omega) (by omega) fun l r hl h1 h2 => hb l r hl h1 (by omega)
      by_cases hld : ∃ r, c.Ld j r
      · obtain ⟨r, hld⟩ := hld
        have hbj := hb j r hld (by omega) (by omega)
        obtain ⟨o, g1, g2⟩ := hld.loud
        have hm := k.marks h (k.ltt i j o (by omega) g1 g2 hbj) (j := j) (by omega) (by omega)
        obtain ⟨o', h1, h2, h3, h4, h5, h6⟩ := hld
        refine ⟨j + 1, Nat.le_refl _, rfl, fun l r' _ h1' h2' => by omega, ?_⟩
        rcases ckM_ok h4 hm with h7 | h7
        · simp only at h7; rw [hbj] at h7; cases h7
        · unfold Tc.vw; rw [h6]; exact h7
      · have hst := k.still (i := j) (j := j + 1) (by omega) hj fun l r h1 h2 hl => by
          have : l = j := by omega
          subst this; exact hld ⟨r, hl⟩
        refine ⟨j', by omega, by rw [hst]; exact i2, fun l r hl h1 h2 => ?_, i4⟩
        by_cases e : l = j
        · subst e; exact hld ⟨r, hl⟩
        · exact i3 l r hl h1 (by omega)
end
end Tc
end Go.Ev
namespace Go.Ev
open Go.RowKit
namespace Tc
variable {c : Tc}

def PN (c : Tc) (done : Nat → Bool) (κ i : Nat) (x : Pn) : Prop := c.New i x ∧ done i = true ∧ ∀ l r, c.Ld l r → l < κ → bit (c.D l) i = false
def InH (c : Tc) (done : Nat → Bool) (κ : Nat) (q : Po) (b : B) : Prop := (c.vw κ).h.get q = some b ∨ ∃ i x, PN c done κ i x ∧ x.n = q ∧ x.b = b

structure Js (c : Tc) (N : Nat) (ds : List Deferred) (done : Nat → Bool) (β : Be) (a : Act) : Prop where
  size : a.tmps.size = N
  defs : a.defers = ds
  cl : ∀ i, i < c.ops.length → done i = true → ∀ j, bit (c.D i) j = true → done j = true
  sl : ∀ i o d, c.ops[i]? = some o → done i = true → o.dst = some d → ∃ v, V (rs β (c.n (i + 1))) (c.val i) = some v ∧ a.tmps[d]? = some v
  cr : ∀ t b, c.X t = true → c.m.get (po t) = some b → (∀ i o, c.ops[i]? = some o → done i = true → o.dst ≠ some t) → ∃ v, V (rs β (c.n 0)) b = some v ∧ a.tmps[t]? = some v

structure Jm (c : Tc) (β0 : Be) (w0 : World) (done : Nat → Bool) (κ : Nat) (β : Be) (w : World) : Prop where
  kl : κ ≤ c.ops.length
  ku : ∀ l o, c.ops[l]? = some o → loud c.P o.op = true → (done l = true ↔ l < κ)
  bl : ∀ q : Po, q.n < (c.n 0).n → β q = β0 q
  bn : ∀ i, i < c.ops.length → done i = false → ∀ q : Po, (c.n i).n ≤ q.n → q.n < (c.n (i + 1)).n → β q = none
  bt : ∀ q : Po, (c.n c.ops.length).n ≤ q.n → β q = none
  ob : ∀ q b, (c.vw κ).h.get q = some b → ∃ p o, rs β (c.n κ) q = some p ∧ w.heap[p.blk]? = some o ∧ Oo (rs β (c.n κ)) p o b.o
  pn : ∀ i x, PN c done κ i x → (c.vw κ).h.get x.n = none ∧ ∃ p o, rs β (c.n (i + 1)) x.n = some p ∧ w.heap[p.blk]? = some o ∧ Oo (rs β (c.n (i + 1))) p o x.b.o ∧ w0.heap.size ≤ p.blk
  inj : ∀ q q' b b' p p', InH c done κ q b → InH c done κ q' b' → β q = some p → β q' = some p' → p.blk = p'.blk → q = q'
  near : Near w0 w
  sz : w0.heap.size ≤ w.heap.size
  fr : ∀ b, b < w0.heap.size → (∀ q x p, (c.vw 0).h.get q = some x → c.lv ≤ x.lv → β0 q = some p → p.blk ≠ b) → w.heap[b]? = w0.heap[b]?
  src : ∀ q x p, (c.vw κ).h.get q = some x → β q = some p → p.blk < w0.heap.size → ∃ q0 c0 p0, (c.vw 0).h.get q0 = some c0 ∧ β0 q0 = some p0 ∧ p0.blk = p.blk ∧ (c.lv ≤ x.lv → c.lv ≤ c0.lv)
  lvb : ∀ K, c.lv ≤ K → (∀ q x, (c.vw 0).h.get q = some x → x.lv ≤ K) → ∀ q x, (c.vw κ).h.get q = some x → x.lv ≤ K
section
variable {N : Nat} {ds : List Deferred} {β0 β : Be} {w0 w : World} {done : Nat → Bool} {κ : Nat} {a : Act}
theorem Jm.all (j : Jm c β0 w0 done κ β w) {q : Po} {b : B} (h : InH c done κ q b) : ∃ p o, β q = some p ∧ w.heap[p.blk]? = some o ∧ Oo β p o b.o := by
  rcases h with h | ⟨i, x, h, rfl, rfl⟩
  · obtain ⟨p, o, h1, h2, h3⟩ := j.ob q b h
    exact ⟨p, o, rs_le _ _ _ _ h1, h2, h3.le (rs_le _ _)⟩
  · obtain ⟨_, p, o, h1, h2, h3, _⟩ := j.pn i x h
    exact ⟨p, o, rs_le _ _ _ _ h1, h2, h3.le (rs_le _ _)⟩

theorem Ok.part (k : c.Ok) (j : Jm c β0 w0 done κ β w) {i j' : Nat} (hj' : j' ≤ c.ops.length) (hv : (c.vw j').h = (c.vw κ).h) (hl : ∀ l r, c.Ld l r → l < κ → l < j') (hd : ∀ t, bit (c.D i) t = true → done t = true) {q : Po} {b : B} (h : (act (c.D i) (c.vw j')).get q = some b) :
    (c.vw κ).h.get q = some b ∨ ∃ x, x.j < j' ∧ PN c done κ x.j x ∧ bit (c.D i) x.j = true ∧ x.n = q ∧ x.b = b := by
  rcases act_get h with ⟨x, h1, h2, h3, h4⟩ | h
  · obtain ⟨g1, g2, g3⟩ := k.pend hj' h1
    exact .inr ⟨x, g1, ⟨g2, hd _ h2, fun l r hl' h => g3 l r hl' (hl l r hl' h)⟩, h2, h3, h4⟩
  · rw [hv] at h; exact .inl h
theorem Ok.obAt (k : c.Ok) (j : Jm c β0 w0 done κ β w) {i j' : Nat} (hj' : j' ≤ c.ops.length) (hv : (c.vw j').h = (c.vw κ).h) (hl : ∀ l r, c.Ld l r → l < κ → l < j') (hd : ∀ t, bit (c.D i) t = true → done t = true) : Ob β (act (c.D i) (c.vw j')) w := fun q b h => by
  rcases k.part j hj' hv hl hd h with h | ⟨x, _, h2, _, h3, h4⟩
  · exact j.all (.inl h)
  · exact j.all (.inr ⟨_, x, h2, h3, h4⟩)
theorem Ok.okAt (k : c.Ok) (j : Jm c β0 w0 done κ β w) {i : Nat} (hi : i < c.ops.length) (hκ : κ ≤ i) (hn : ∀ l r, κ ≤ l → l < i → ¬ c.Ld l r) (hd : ∀ t, bit (c.D i) t = true → done t = true) : Ev.Ok (rs β (c.n i)) (act (c.D i) (c.vw i)) (c.n i) w := by
  have hp := fun q b h => k.part (q := q) (b := b) j (i := i) (j' := i) (by omega) (k.still hκ (by omega) hn) (fun l r _ h => by omega) hd h
  refine ⟨fun q b h => ?_, fun q q' b b' p p' h h' g g' e => ?_, fun q hq => rs_ge hq⟩
  · rcases hp q b h with h | ⟨x, h1, h2, _, h3, h4⟩
    · obtain ⟨p, o, g1, g2, g3⟩ := j.ob q b h
      have hm : Be.le (rs β (c.n κ)) (rs β (c.n i)) := rs_mono (k.nle hκ (by omega)) fun _ _ _ h => h
      exact ⟨p, o, hm _ _ g1, g2, g3.le hm⟩
    · obtain ⟨_, p, o, g1, g2, g3, _⟩ := j.pn _ x h2
      have hm : Be.le (rs β (c.n (x.j + 1))) (rs β (c.n i)) := rs_mono (k.nle (by omega) (by omega)) fun _ _ _ h => h
      subst h3; subst h4
      exact ⟨p, o, hm _ _ g1, g2, g3.le hm⟩
  · have cv : ∀ {q b}, (act (c.D i) (c.vw i)).get q = some b → InH c done κ q b := fun {q b} h => by
      rcases hp q b h with h | ⟨x, _, h2, _, h3, h4⟩
      · exact .inl h
      · exact .inr ⟨_, x, h2, h3, h4⟩
    exact j.inj q q' b b' p p' (cv h) (cv h') (rs_le _ _ _ _ g) (rs_le _ _ _ _ g') e

theorem Ok.slot (k : c.Ok) (s : Js c N ds done β a) {i : Nat} {o : Oper} (ho : c.ops[i]? = some o) (hi : done i = false) (hd : ∀ t, bit (c.D i) t = true → done t = true) {t : Nat} (ht : t ∈ slotsOf c.ops o) {b : A} (e : ev (c.cx i) (.tmp t) (c.st i) c.m = some b) :
    ∃ v, V (rs β (c.n i)) b = some v ∧ a.tmps[t]? = some v := by
  have hil := (List.getElem?_eq_some_iff.1 ho).1
  have h6 := Nat.ne_of_lt (k.rg.sl ho ht)
  have cross : (∀ i o, c.ops[i]? = some o → done i = true → o.dst ≠ some t) → (∀ i' o, i' < i → c.ops[i']? = some o → o.dst ≠ some t) → ∃ v, V (rs β (c.n i)) b = some v ∧ a.tmps[t]? = some v := fun h1 h2 => by
    rw [k.ev_none h6 (by omega) h2, cn_eq] at e
    split at e
    · rename_i hX
      obtain ⟨v, g1, g2⟩ := s.cr t b hX e h1
      exact ⟨v, V_le (rs_mono (k.nle (Nat.zero_le _) (by omega)) fun _ _ _ h => h) _ _ g1, g2⟩
    · cases e
  by_cases hx : ∃ (j : Nat) (q : Oper), c.ops[j]? = some q ∧ q.dst = some t
  · obtain ⟨j, q, hq, hqd⟩ := hx
    have hjl := (List.getElem?_eq_some_iff.1 hq).1
    have uniq : ∀ {i' : Nat} {o' : Oper}, c.ops[i']? = some o' → o'.dst = some t → i' = j := fun {i' o'} h1 h2 => by
      by_cases e : i' = j
      · exact e
      · exact absurd h2 (k.rg.ds h1 hq e hqd)
    by_cases hij : i = j
    · subst hij
      refine cross (fun i' o' h1 h2 h3 => ?_) (fun i' o' h1 h2 h3 => ?_)
      · have := uniq h1 h3; subst this; rw [hi] at h2; cases h2
      · have := uniq h2 h3; omega
    · rcases k.rg.rd ho hq hij hqd ht with hb | hb
      · have hji := k.rg.lt hil hb
        rw [k.ev_some hq hqd h6 (by omega) hji] at e
        cases Option.some.inj e
        obtain ⟨v, g1, g2⟩ := s.sl j q t hq (hd j hb) hqd
        exact ⟨v, V_le (rs_mono (k.nle (by omega) (by omega)) fun _ _ _ h => h) _ _ g1, g2⟩
      · have hlt := k.rg.lt hjl hb
        refine cross (fun i' o' h1 h2 h3 => ?_) (fun i' o' h1 h2 h3 => ?_)
        · have := uniq h1 h3; subst this
          rw [s.cl _ hjl h2 _ hb] at hi; cases hi
        · have := uniq h2 h3; omega
  · exact cross (fun i' o' h1 _ h3 => hx ⟨i', o', h1, h3⟩) (fun i' o' _ h2 h3 => hx ⟨i', o', h2, h3⟩)
theorem Ok.gl (k : c.Ok) (j : Jm c β0 w0 done κ β w) (g : Gl β0 (c.n 0)) {i : Nat} (hi : i ≤ c.ops.length) : Gl (rs β (c.n i)) (c.n i) := by
  have hle := k.nle (Nat.zero_le i) hi
  refine ⟨Nat.le_trans g.1 hle, fun x hx => ?_⟩
  obtain ⟨sz, e⟩ := g.2 x hx
  have h1 := Nat.lt_of_lt_of_le (po_n hx) g.1
  exact ⟨sz, by rw [rs_lt (by omega), j.bl _ h1]; exact e⟩

theorem Ok.oper (k : c.Ok) (s : Js c N ds done β a) (j : Jm c β0 w0 done κ β w) (g : Gl β0 (c.n 0)) {i : Nat} {o : Oper} (ho : c.ops[i]? = some o) (hi : done i = false) (hd : ∀ t, bit (c.D i) t = true → done t = true) :
    ∀ z ∈ o.op.operands, ∀ b, ev (c.cx i) z (c.st i) c.m = some b → V (rs β (c.n i)) b = some (a.eval z) := fun z hz b e => by
  have hil := (List.getElem?_eq_some_iff.1 ho).1
  cases z with
  | tmp t =>
    have ht : t ∈ slotsOf c.ops o := by
      unfold slotsOf
      rw [List.mem_append]
      exact .inl (List.mem_filterMap.2 ⟨.tmp t, by simpa using hz, rfl⟩)
    obtain ⟨v, h1, h2⟩ := k.slot s ho hi hd ht e
    rw [h1]; show _ = some (a.tmps.getD t undef); rw [Array.getD_eq_getD_getElem?, h2]; rfl
  | const v => cases Option.some.inj (show some (ofV v) = some b from e); exact V_ofV _ v
  | global x =>
    unfold ev oaD at e
    simp only [cn_eq] at e
    split at e
    · rename_i hle
      cases Option.some.inj (show some (A.p (po x) 0) = some b from e)
      obtain ⟨sz, h1⟩ := (k.gl j g (i := i) (by omega)).2 x (Nat.le_of_ble_eq_true hle)
      show (rs β (c.n i) (po x)).map _ = _; rw [h1]; rfl
    · cases e
  | func f => cases Option.some.inj (show some (A.f f []) = some b from e); rfl

theorem Ok.guard (k : c.Ok) (s : Js c N ds done β a) {i : Nat} {o : Oper} (ho : c.ops[i]? = some o) (hi : done i = false) (hd : ∀ t, bit (c.D i) t = true → done t = true) {g : Option Nat × Bool} {t : Bool} (hg : gdD c.ops o = some g) (hw : wanted (c.cx i) g (c.st i) c.m = some t) :
    Region.wanted o (yielded c.ops.toArray a.tmps) = t := by
  refine wanted_okR (X := c.X) (loc := c.loc i) (β := rs β (c.n i)) (st := c.st i) (m := c.m) (ops := c.ops.toArray) (fun d hd' b e => k.slot s ho hi hd ?_ e) (by simpa using hg) hw
  unfold slotsOf
  rw [List.mem_append, hg]
  obtain ⟨d', want⟩ := g
  simp only at hd'
  subst hd'
  exact .inr (by simp)
theorem Ok.wanted (k : c.Ok) (s : Js c N ds done β a) {i : Nat} {o : Oper} (hi : done i = false) (hd : ∀ t, bit (c.D i) t = true → done t = true) (hw : c.W i o) : Region.wanted o (yielded c.ops.toArray a.tmps) = true := by
  rcases hw.2 with h | ⟨g, h1, h2⟩
  · unfold gdD at h
    split at h
    · rename_i e; unfold Region.wanted; rw [e]
    · cases h
  · exact k.guard s hw.1 hi hd h1 h2
end
end Tc
end Go.Ev
namespace Go.Ev
open Go.RowKit
namespace Tc
variable {c : Tc}

def dn (done : Nat → Bool) (k : Nat) : Nat → Bool := fun i => decide (i = k) || done i
theorem dn_self (done : Nat → Bool) (k : Nat) : dn done k k = true := by simp [dn]
theorem dn_ne {done : Nat → Bool} {k i : Nat} (h : i ≠ k) : dn done k i = done i := by simp [dn, h]
theorem dn_of {done : Nat → Bool} {k i : Nat} (h : done i = true) : dn done k i = true := by simp [dn, h]
section
variable {N : Nat} {ds : List Deferred} {β0 β β' : Be} {w0 w w' : World} {done : Nat → Bool} {κ : Nat} {a : Act}
theorem Js.put (k : c.Ok) (s : Js c N ds done β a) {i : Nat} {o : Oper} {v : Value} (ho : c.ops[i]? = some o) (hd : ∀ t, bit (c.D i) t = true → done t = true) (hN : dOk N o.dst = true) (hβ : Be.le β β') (hv : V (rs β' (c.n (i + 1))) (c.val i) = some v) :
    Js c N ds (dn done i) β' (a.put o.dst v) := by
  have keep : ∀ {j q d}, c.ops[j]? = some q → j ≠ i → q.dst = some d → (a.put o.dst v).tmps[d]? = a.tmps[d]? := fun {j q d} hq hj hqd => by
    have := k.rg.ds ho hq (fun e => hj e.symm) hqd
    cases hod : o.dst with
    | none => rfl
    | some d' =>
      rw [hod] at this
      show (a.tmps.setIfInBounds d' v)[d]? = _
      rw [Array.getElem?_setIfInBounds_ne (fun e => this (by rw [e]))]
  refine ⟨by rw [put_size]; exact s.size, by rw [put_def]; exact s.defs, fun j hj hdj t ht => ?_, fun j q d hq hdj hqd => ?_, fun t b hX hb hno => ?_⟩
  · by_cases e : j = i
    · subst e; exact dn_of (hd t ht)
    · rw [dn_ne e] at hdj; exact dn_of (s.cl j hj hdj t ht)
  · by_cases e : j = i
    · subst e
      rw [ho] at hq; cases Option.some.inj hq
      refine ⟨v, hv, ?_⟩
      rw [hqd]
      rw [hqd] at hN
      have : d < a.tmps.size := by rw [s.size]; exact Nat.le_of_ble_eq_true hN
      show (a.tmps.setIfInBounds d v)[d]? = _
      simp [this]
    · rw [dn_ne e] at hdj
      obtain ⟨u, g1, g2⟩ := s.sl j q d hq hdj hqd
      exact ⟨u, V_le (rs_mono (Nat.le_refl _) fun q _ p h => hβ q p h) _ _ g1, by rw [keep hq e hqd]; exact g2⟩
  · obtain ⟨u, g1, g2⟩ := s.cr t b hX hb fun j q hq hdj => hno j q hq (dn_of hdj)
    refine ⟨u, V_le (rs_mono (Nat.le_refl _) fun q _ p h => hβ q p h) _ _ g1, ?_⟩
    have := hno i o ho (dn_self done i)
    cases hod : o.dst with
    | none => exact g2
    | some d' =>
      rw [hod] at this
      show (a.tmps.setIfInBounds d' v)[t]? = _
      rw [Array.getElem?_setIfInBounds_ne (fun e => this (by rw [e]))]; exact g2

theorem Jm.move (k : c.Ok) (j : Jm c β0 w0 done κ β w) {i κ' : Nat} (hκ : κ ≤ κ') (hk' : κ' ≤ c.ops.length) (hv : (c.vw κ').h = (c.vw κ).h) (hl : ∀ l r, c.Ld l r → l < κ → l < κ') (hu : ∀ l o, c.ops[l]? = some o → loud c.P o.op = true → (dn done i l = true ↔ l < κ')) (hn : ∀ x, ¬ c.New i x) : Jm c β0 w0 (dn done i) κ' β w := by
  have hp : ∀ {i' x}, PN c (dn done i) κ' i' x → PN c done κ i' x := fun {i' x} h => by
    have : i' ≠ i := by rintro rfl; exact hn x h.1
    exact ⟨h.1, by have := h.2.1; rwa [dn_ne ‹i' ≠ i›] at this, fun l r h1 h2 => h.2.2 l r h1 (hl l r h1 h2)⟩
  have hi : ∀ {q b}, InH c (dn done i) κ' q b → InH c done κ q b := fun {q b} h => by
    rcases h with h | ⟨i', x, h1, h2, h3⟩
    · exact .inl (by rw [← hv]; exact h)
    · exact .inr ⟨i', x, hp h1, h2, h3⟩
  refine ⟨hk', hu, j.bl, fun i' h1 h2 => j.bn i' h1 ?_, j.bt, fun q b h => ?_, fun i' x h => ?_, fun q q' b b' p p' h h' => j.inj q q' b b' p p' (hi h) (hi h'), j.near, j.sz, j.fr, fun q x p h => ?_, by rw [hv]; exact j.lvb⟩
  · cases hd : done i' with
    | false => rfl
    | true => rw [dn_of hd] at h2; cases h2
  · rw [hv] at h
    obtain ⟨p, o, h1, h2, h3⟩ := j.ob q b h
    have hm : Be.le (rs β (c.n κ)) (rs β (c.n κ')) := rs_mono (k.nle hκ hk') fun _ _ _ h => h
    exact ⟨p, o, hm _ _ h1, h2, h3.le hm⟩
  · rw [hv]; exact j.pn i' x (hp h)
  · rw [hv] at h; exact j.src q x p h
theorem New.quiet {i : Nat} {x : Pn} (h : c.New i x) {o : Oper} (ho : c.ops[i]? = some o) : loud c.P o.op = false := by
  obtain ⟨o', g, q, h1, h2, h3, h4, _⟩ := h
  have e := h1.1; rw [ho] at e; cases Option.some.inj e
  rw [loud_c (c.cx i), h4]; simp

theorem Jm.new (k : c.Ok) (j : Jm c β0 w0 done κ β w) {i : Nat} {x : Pn} {obj : Obj} {sz : Nat} (hx : c.New i x) (hi : done i = false) (ho : Oo (rs β (c.n i)) ⟨w.heap.size, 0, sz⟩ obj x.b.o) :
    Jm c β0 w0 (dn done i) κ (upB β (c.n i) ⟨w.heap.size, 0, sz⟩) (w.alloc obj) ∧ Be.le β (upB β (c.n i) ⟨w.heap.size, 0, sz⟩) := by
  obtain ⟨e1, e2, e3, e4, hil⟩ := hx.n
  have hnn : β (c.n i) = none := j.bn i hil hi _ (Nat.le_refl _) (by rw [e1, Po.n_s]; omega)
  have hle := upB_le (β := β) (n := c.n i) ⟨w.heap.size, 0, sz⟩ hnn
  have hne : ∀ {q : Po}, q.n ≠ (c.n i).n → upB β (c.n i) ⟨w.heap.size, 0, sz⟩ q = β q := fun {q} h => upB_ne β _ (by rintro rfl; exact h rfl)
  have hm : ∀ (m : Po), Be.le (rs β m) (rs (upB β (c.n i) ⟨w.heap.size, 0, sz⟩) m) := fun m => rs_mono (Nat.le_refl _) fun q _ p h => hle q p h
  have hheap : ∀ {b : Nat}, b < w.heap.size → (w.alloc obj).heap[b]? = w.heap[b]? := fun {b} hb => by
    show (w.heap.push obj)[b]? = _; rw [Array.getElem?_push, if_neg (by omega)]
  have hlt : ∀ {b : Nat} {o : Obj}, w.heap[b]? = some o → b < w.heap.size := fun h => (Array.getElem?_eq_some_iff.1 h).1
  have hget : (c.vw κ).h.get (c.n i) = none := by
    cases hg : (c.vw κ).h.get (c.n i) with
    | none => rfl
    | some b =>
      obtain ⟨p, o, g1, _⟩ := j.ob _ b hg
      have := rs_le _ _ _ _ g1
      rw [hnn] at this; cases this
  have hp : ∀ {i' x'}, PN c (dn done i) κ i' x' → (i' = i ∧ x' = x) ∨ (i' ≠ i ∧ PN c done κ i' x') := fun {i' x'} h => by
    by_cases e : i' = i
    · subst e; exact .inl ⟨rfl, h.1.uniq hx⟩
    · exact .inr ⟨e, h.1, by have := h.2.1; rwa [dn_ne e] at this, h.2.2⟩
  have hin : ∀ {q b}, InH c (dn done i) κ q b → (q = c.n i ∧ b = x.b) ∨ (q ≠ c.n i ∧ InH c done κ q b) := fun {q b} h => by
    rcases h with h | ⟨i', x', h1, h2, h3⟩
    · refine .inr ⟨?_, .inl h⟩
      rintro rfl; rw [hget] at h; cases h
    · rcases hp h1 with ⟨rfl, rfl⟩ | ⟨e, h1'⟩
      · exact .inl ⟨by rw [← h2, e3], h3.symm⟩
      · refine .inr ⟨?_, .inr ⟨i', x', h1', h2, h3⟩⟩
        intro e5
        exact e (k.new_inj h1'.1 hx (by rw [h2, e3]; exact e5))
  refine ⟨⟨j.kl, fun l o hlo hll => ?_, fun q hq => ?_, fun i' h1 h2 q h3 h4 => ?_, fun q hq => ?_, fun q b h => ?_, fun i' x' h => ?_, fun q q' b b' p p' h h' g g' e => ?_, ⟨j.near.os, j.near.tape, j.near.out, j.near.drawn⟩, Nat.le_trans j.sz (by show w.heap.size ≤ (w.heap.push obj).size; simp), fun b hb hh => ?_, fun q y p h g hlt' => ?_, j.lvb⟩, hle⟩
  · rw [← j.ku l o hlo hll, dn_ne]
    rintro rfl; rw [hx.quiet hlo] at hll; cases hll
  · have := k.nle (Nat.zero_le i) (by omega)
    rw [hne (by omega)]; exact j.bl q hq
  · have hii : i' ≠ i := by rintro rfl; rw [dn_self] at h2; cases h2
    have : q.n ≠ (c.n i).n := by
      rcases Nat.lt_or_ge i' i with g | g
      · have := k.nle (i := i' + 1) (j := i) (by omega) (by omega); omega
      · have := k.nle (i := i + 1) (j := i') (by omega) (by omega)
        rw [e1, Po.n_s] at this; omega
    rw [hne this]
    rw [dn_ne hii] at h2
    exact j.bn i' h1 h2 q h3 h4
  · have := k.nle (i := i + 1) (j := c.ops.length) (by omega) (Nat.le_refl _)
    rw [e1, Po.n_s] at this
    rw [hne (by omega)]; exact j.bt q hq
  · obtain ⟨p, o, g1, g2, g3⟩ := j.ob q b h
    exact ⟨p, o, hm _ _ _ g1, by rw [hheap (hlt g2)]; exact g2, g3.le (hm _)⟩
  · rcases hp h with ⟨rfl, rfl⟩ | ⟨_, h⟩
    · rw [e3]
      refine ⟨hget, _, obj, by rw [rs_lt (by rw [e1, Po.n_s]; omega), upB_eq], ?_, ho.le (rs_mono (by rw [e1, Po.n_s]; omega) fun q _ p h => hle q p h), j.sz⟩
      show (w.heap.push obj)[w.heap.size]? = _; simp
    · obtain ⟨g0, p, o, g1, g2, g3, g4⟩ := j.pn i' x' h
      exact ⟨g0, p, o, hm _ _ _ g1, by rw [hheap (hlt g2)]; exact g2, g3.le (hm _), g4⟩
  · have old : ∀ {q b p}, q ≠ c.n i → InH c done κ q b → upB β (c.n i) ⟨w.heap.size, 0, sz⟩ q = some p → β q = some p ∧ p.blk < w.heap.size := fun {q b p} h1 h2 h3 => by
      rw [upB_ne β _ h1] at h3
      obtain ⟨p', o, k1, k2, _⟩ := j.all h2
      rw [h3] at k1; cases k1
      exact ⟨h3, hlt k2⟩
    rcases hin h with ⟨rfl, _⟩ | ⟨h1, h2⟩ <;> rcases hin h' with ⟨rfl, _⟩ | ⟨h1', h2'⟩
    · rfl
    · rw [upB_eq] at g; cases g
      have := (old h1' h2' g').2; simp only at e; omega
    · rw [upB_eq] at g'; cases g'
      have := (old h1 h2 g).2; simp only at e; omega
    · exact j.inj q q' b b' p p' h2 h2' (old h1 h2 g).1 (old h1' h2' g').1 e
  · rw [hheap (Nat.lt_of_lt_of_le hb j.sz)]; exact j.fr b hb hh
  · have : q ≠ c.n i := by rintro rfl; rw [hget] at h; cases h
    rw [upB_ne β _ this] at g
    exact j.src q y p h g hlt'
end
end Tc
end Go.Ev
namespace Go.Ev
open Go.RowKit
namespace Tc
variable {c : Tc}
section
variable {N : Nat} {ds : List Deferred} {β0 β β' : Be} {w0 w w' : World} {done : Nat → Bool} {κ : Nat} {a : Act}

noncomputable def mixB (β β' : Be) (n n' : Po) : Be := fun q => if q.n < n.n then β q else if q.n < n'.n then β' q else β q

theorem Jm.loud (k : c.Ok) (j : Jm c β0 w0 done κ β w) {i : Nat} {r : R} (hl : c.Ld i r) (hi : done i = false) (hκ : κ ≤ i) (hn : ∀ l r, κ ≤ l → l < i → ¬ c.Ld l r) (hd : ∀ t, bit (c.D i) t = true → done t = true)
    (M : Mv c.lv (rs β (c.n i)) (act (c.D i) (c.vw i)) (c.n i) w β' r.h r.n w') :
    ∃ βn, Be.le β βn ∧ rs βn (c.n (i + 1)) = β' ∧ Jm c β0 w0 (dn done i) (i + 1) βn w' := by
  obtain ⟨o, ho, hlo⟩ := hl.loud
  have hil := (List.getElem?_eq_some_iff.1 ho).1
  obtain ⟨e1, e2⟩ : c.n (i + 1) = r.n ∧ (c.vw (i + 1)).h = r.h := by
    obtain ⟨_, _, _, _, _, _, e⟩ := hl
    unfold Tc.n Tc.vw; rw [e]; exact ⟨rfl, rfl⟩
  have hle0 : (c.n i).n ≤ r.n.n := M.le
  have hpart := fun q b h => k.part (q := q) (b := b) j (i := i) (j' := i) (by omega) (k.still hκ (by omega) hn) (fun l r _ h => by omega) hd h
  have cv : ∀ {q b}, (act (c.D i) (c.vw i)).get q = some b → InH c done κ q b := fun {q b} h => by
    rcases hpart q b h with h | ⟨x, _, h2, _, h3, h4⟩
    · exact .inl h
    · exact .inr ⟨_, x, h2, h3, h4⟩
  refine ⟨mixB β β' (c.n i) r.n, ?_⟩
  have hle : Be.le β (mixB β β' (c.n i) r.n) := fun q p h => by
    unfold mixB
    split
    · exact h
    · rename_i h1
      split
      · rename_i h2
        rw [j.bn i hil hi q (by omega) (by rw [e1]; exact h2)] at h; cases h
      · exact h
  have hrs : rs (mixB β β' (c.n i) r.n) r.n = β' := by
    funext q
    unfold rs
    split
    · rename_i h1
      unfold mixB
      split
      · rename_i h2; rw [M.old q h2, rs_lt h2]
      · rfl
    · rename_i h1; exact (M.ok.top q (by omega)).symm
  have hm : ∀ (m : Po), Be.le (rs β m) (rs (mixB β β' (c.n i) r.n) m) := fun m => rs_mono (Nat.le_refl _) fun q _ p h => hle q p h
  have hnl : ∀ x, ¬ c.New i x := fun x h => by rw [h.quiet ho] at hlo; cases hlo
  have hp : ∀ {i' x'}, PN c (dn done i) (i + 1) i' x' → i' ≠ i ∧ PN c done κ i' x' ∧ bit (c.D i) i' = false := fun {i' x'} h => by
    have e : i' ≠ i := by rintro rfl; exact hnl _ h.1
    exact ⟨e, ⟨h.1, by have := h.2.1; rwa [dn_ne e] at this, fun l r h1 h2 => h.2.2 l r h1 (by omega)⟩, h.2.2 i r hl (by omega)⟩
  
  have apart : ∀ {i' x'}, PN c (dn done i) (i + 1) i' x' → ∀ {q b p p0}, (act (c.D i) (c.vw i)).get q = some b → rs β (c.n i) q = some p → β x'.n = some p0 → p.blk ≠ p0.blk := fun {i' x'} h {q b p p0} hq hp1 hp0 e => by
    obtain ⟨h1, h2, h3⟩ := hp h
    have := j.inj q x'.n b x'.b p p0 (cv hq) (.inr ⟨i', x', h2, rfl, rfl⟩) (rs_le _ _ _ _ hp1) hp0 e
    subst this
    rcases hpart _ b hq with h4 | ⟨y, y1, y2, y3, y4, y5⟩
    · rw [(j.pn i' x' h2).1] at h4; cases h4
    · have := k.new_inj y2.1 h2.1 y4
      rw [this] at y3; rw [h3] at y3; cases y3
  have own : ∀ {q b p}, r.h.get q = some b → mixB β β' (c.n i) r.n q = some p → β' q = some p := fun {q b p} h1 h2 => by
    obtain ⟨p', o', g1, _⟩ := M.ok.ob q b h1
    have := rs_le _ _ _ _ (show rs (mixB β β' (c.n i) r.n) r.n q = some p' by rw [hrs]; exact g1)
    rw [h2] at this; cases this; exact g1
  have apart2 : ∀ {i' x'}, PN c (dn done i) (i + 1) i' x' → ∀ {q b p p0}, r.h.get q = some b → β' q = some p → β x'.n = some p0 → p.blk ≠ p0.blk := fun {i' x'} h {q b p p0} hq hp1 hp0 e => by
    obtain ⟨p', o', g1, g2, _⟩ := j.all (.inr ⟨i', x', (hp h).2.1, rfl, rfl⟩ : InH c done κ x'.n x'.b)
    rw [hp0] at g1; cases g1
    have hlt := (Array.getElem?_eq_some_iff.1 g2).1
    obtain ⟨q0, c0, p1, k1, k2, k3, _⟩ := M.src q b p hq hp1 (by omega)
    exact apart h k1 k2 hp0 (by omega)
  refine ⟨hle, by rw [e1]; exact hrs, hil, fun l ol hol hll => ?_, fun q hq => ?_, fun i' h1 h2 q h3 h4 => ?_, fun q hq => ?_, fun q b h => ?_, fun i' x' h => ?_, fun q q' b b' p p' h h' g g' e => ?_, ⟨M.os.trans j.near.os, M.tape.trans j.near.tape, M.out.trans j.near.out, Nat.le_trans j.near.drawn M.drawn⟩, Nat.le_trans j.sz M.size, fun b hb hh => ?_, fun q y p h g hlt' => ?_, fun K hK hh => ?_⟩
  · by_cases e : l = i
    · subst e; rw [dn_self]; simp
    · rw [dn_ne e]
      rcases Nat.lt_or_ge l i with g | g
      · have := hd l (k.rg.ld hol ho g hll hlo)
        rw [this]; simp; omega
      · have := j.ku l ol hol hll
        rw [this]; omega
  · have := k.nle (Nat.zero_le i) (by omega)
    unfold mixB; rw [if_pos (by omega)]; exact j.bl q hq
  · have hii : i' ≠ i := by rintro rfl; rw [dn_self] at h2; cases h2
    rw [dn_ne hii] at h2
    have hb := j.bn i' h1 h2 q h3 h4
    unfold mixB
    rcases Nat.lt_or_ge i' i with g | g
    · have := k.nle (i := i' + 1) (j := i) (by omega) (by omega)
      rw [if_pos (by omega)]; exact hb
    · have := k.nle (i := i + 1) (j := i') (by omega) (by omega)
      rw [e1] at this
      rw [if_neg (by omega), if_neg (by omega)]; exact hb
  · have := k.nle (i := i + 1) (j := c.ops.length) (by omega) (Nat.le_refl _)
    rw [e1] at this
    unfold mixB
    rw [if_neg (by omega), if_neg (by omega)]; exact j.bt q hq
  · rw [e2] at h
    rw [e1, hrs]
    exact M.ok.ob q b h
  · obtain ⟨h1, h2, h3⟩ := hp h
    obtain ⟨g0, p, o', g1, g2, g3, g4⟩ := j.pn i' x' h2
    have hp0 := rs_le _ _ _ _ g1
    refine ⟨?_, p, o', hm _ _ _ g1, ?_, g3.le (hm _), g4⟩
    · rw [e2]
      cases hg : r.h.get x'.n with
      | none => rfl
      | some b =>
        obtain ⟨p1, o1, k1, _⟩ := M.ok.ob _ b hg
        have : p1 = p := by
          have := rs_le _ _ _ _ (show rs (mixB β β' (c.n i) r.n) r.n x'.n = some p1 by rw [hrs]; exact k1)
          rw [hle _ _ hp0] at this; exact (Option.some.inj this).symm
        subst this
        exact absurd rfl (apart2 h hg k1 hp0)
    · rw [M.fr p.blk (Array.getElem?_eq_some_iff.1 g2).1 fun q b p1 hq _ hp1 => apart h hq hp1 hp0]; exact g2
  · rcases h with h | ⟨i1, x1, h1, rfl, rfl⟩ <;> rcases h' with h' | ⟨i2, x2, h2, rfl, rfl⟩
    · rw [e2] at h h'
      exact M.ok.inj q q' b b' p p' h h' (own h g) (own h' g') e
    · rw [e2] at h
      obtain ⟨_, p0, _, k1, _⟩ := j.pn i2 x2 (hp h2).2.1
      have hp0 := rs_le _ _ _ _ k1
      rw [hle _ _ hp0] at g'; cases g'
      exact absurd e (apart2 h2 h (own h g) hp0)
    · rw [e2] at h'
      obtain ⟨_, p0, _, k1, _⟩ := j.pn i1 x1 (hp h1).2.1
      have hp0 := rs_le _ _ _ _ k1
      rw [hle _ _ hp0] at g; cases g
      exact absurd e.symm (apart2 h1 h' (own h' g') hp0)
    · obtain ⟨_, p1, _, k1, _⟩ := j.pn i1 x1 (hp h1).2.1
      obtain ⟨_, p2, _, k2, _⟩ := j.pn i2 x2 (hp h2).2.1
      have hp1 := rs_le _ _ _ _ k1
      have hp2 := rs_le _ _ _ _ k2
      rw [hle _ _ hp1] at g; cases g
      rw [hle _ _ hp2] at g'; cases g'
      exact j.inj _ _ _ _ _ _ (.inr ⟨i1, x1, (hp h1).2.1, rfl, rfl⟩) (.inr ⟨i2, x2, (hp h2).2.1, rfl, rfl⟩) hp1 hp2 e
  · rw [M.fr b (Nat.lt_of_lt_of_le hb j.sz) fun q x p hq hlv hp1 e => ?_]
    · exact j.fr b hb hh
    · rcases hpart q x hq with h4 | ⟨y, y1, y2, y3, y4, y5⟩
      · obtain ⟨q0, c0, p0, k1, k2, k3, k4⟩ := j.src q x p h4 (rs_le _ _ _ _ hp1) (by omega)
        exact hh q0 c0 p0 k1 (k4 hlv) k2 (by omega)
      · obtain ⟨_, p0, _, k1, _, _, k4⟩ := j.pn _ y y2
        rw [y4] at k1
        have h8 := rs_le _ _ _ _ k1
        rw [rs_le _ _ _ _ hp1] at h8; cases h8
        omega
  · rw [e2] at h
    obtain ⟨q1, c1, p1, k1, k2, k3, k4⟩ := M.src q y p h (own h g) (Nat.lt_of_lt_of_le hlt' j.sz)
    rcases hpart q1 c1 k1 with h4 | ⟨x, x1, x2, x3, x4, x5⟩
    · obtain ⟨q0, c0, p0, m1, m2, m3, m4⟩ := j.src q1 c1 p1 h4 (rs_le _ _ _ _ k2) (by omega)
      exact ⟨q0, c0, p0, m1, m2, by omega, fun h => m4 (k4 h)⟩
    · obtain ⟨_, p0, _, m1, _, _, m4⟩ := j.pn _ x x2
      rw [x4] at m1
      have := rs_le _ _ _ _ m1
      rw [rs_le _ _ _ _ k2] at this; cases this
      omega
  · rw [e2]
    refine M.lvb K hK fun q x hq => ?_
    rcases hpart q x hq with h4 | ⟨y, y1, y2, y3, y4, y5⟩
    · exact j.lvb K hK hh q x h4
    · rw [← y5, y2.1.n.2.2.2.1]; exact hK
end
end Tc
end Go.Ev
namespace Go.Ev
open Go.RowKit
theorem val_in {P : Program} {F : Fence} {a : Act} {w w' : World} {K : Act → World → Prop} {Q : Exit → Act → World → Prop} (hF : OpF P F) {o : Oper} {v : Value} (hnd : ∀ cl, o.op ≠ .defer cl)
    (hrun : ∀ d ty pos aft gd, (execOp a.eval ⟨d, o.op, ty, pos, aft, gd⟩).run P w = .ok (.value v) w') (hK : K (a.put o.dst v) w') : o.wpIn F 0 P a w K Q := by
  unfold Oper.wpIn
  refine ⟨fun f _ => hF.op.fn f, ?_⟩
  rw [Oper.semAt_plain F a.eval o hnd]
  have : (execOp a.eval o).run P w = .ok (.value v) w' := hrun o.dst o.type o.pos o.after o.guard
  rw [this]; exact hK
namespace Tc
variable {c : Tc}
section
variable {N : Nat} {ds : List Deferred} {β0 β β' : Be} {w0 w w' : World} {done : Nat → Bool} {κ : Nat} {a : Act}
theorem Off.not {i : Nat} (h : c.Off i) {o : Oper} (h' : c.W i o) : False := by
  obtain ⟨o1, g, h1, h2, h3, _⟩ := h
  have e := h'.1; rw [h1] at e; cases Option.some.inj e
  rcases h'.2 with h4 | ⟨g', h4, h5⟩
  · rw [h2] at h4; cases h4
  · rw [h2] at h4; cases Option.some.inj h4
    unfold Tc.cx at h3; rw [h3] at h5; cases h5

theorem Ok.ahead (k : c.Ok) (j : Jm c β0 w0 done κ β w) {i : Nat} {o : Oper} (ho : c.ops[i]? = some o) (hl : loud c.P o.op = true) (hi : done i = false) (hd : ∀ t, bit (c.D i) t = true → done t = true) : κ ≤ i ∧ ∀ l r, κ ≤ l → l < i → ¬ c.Ld l r := by
  refine ⟨?_, fun l r h1 h2 hld => ?_⟩
  · rcases Nat.lt_or_ge i κ with g | g
    · rw [(j.ku i o ho hl).2 g] at hi; cases hi
    · exact g
  · obtain ⟨ol, hol, hll⟩ := hld.loud
    have := (j.ku l ol hol hll).1 (hd l (k.rg.ld hol ho h2 hll hl))
    omega

theorem first (c : Tc) (κ : Nat) : ∀ i, κ ≤ i → (∀ l o, κ ≤ l → l < i → c.ops[l]? = some o → loud c.P o.op = false) ∨ ∃ l o, κ ≤ l ∧ l < i ∧ c.ops[l]? = some o ∧ loud c.P o.op = true ∧ ∀ l' o', κ ≤ l' → l' < l → c.ops[l']? = some o' → loud c.P o'.op = false
  | 0, h => .inl fun l o h1 h2 => by omega
  | i + 1, h => by
    by_cases e : κ = i + 1
    · exact .inl fun l o h1 h2 => by omega
    · rcases first c κ i (by omega) with g | ⟨l, o, g1, g2, g3⟩
      · cases ho : c.ops[i]? with
        | none =>
          refine .inl fun l o h1 h2 h3 => ?_
          by_cases e : l = i
          · subst e; rw [ho] at h3; cases h3
          · exact g l o h1 (by omega) h3
        | some o =>
          cases hl : loud c.P o.op with
          | true => exact .inr ⟨i, o, by omega, by omega, ho, hl, g⟩
          | false =>
            refine .inl fun l o' h1 h2 h3 => ?_
            by_cases e : l = i
            · subst e; rw [ho] at h3; cases Option.some.inj h3; exact hl
            · exact g l o' h1 (by omega) h3
      · exact .inr ⟨l, o, g1, by omega, g3⟩

theorem Ok.read (k : c.Ok) (s : Js c N ds done β a) (j : Jm c β0 w0 done κ β w) {i : Nat} {g : Tr B → Option A} {x : A} (h : c.Rd i g x) (hil : i < c.ops.length) (hi : done i = false) (hd : ∀ t, bit (c.D i) t = true → done t = true) :
    ∃ h', Ob β h' w ∧ g h' = some x := by
  have quiet : ∀ {l r}, c.Ld l r → ∀ {P : Prop}, (∀ o, c.ops[l]? = some o → loud c.P o.op = false) → P := fun {l r} hld {P} hq => by
    obtain ⟨o, h1, h2⟩ := hld.loud
    rw [hq o h1] at h2; cases h2
  rcases Nat.lt_or_ge i κ with gt | gle
  · obtain ⟨j', h1, h2, h3, h4⟩ := k.read_behind h gt j.kl fun l r hld h1 h2 => by
      obtain ⟨o, ho, hl⟩ := hld.loud
      cases hb : bit (c.D l) i with
      | false => rfl
      | true =>
        rw [s.cl l (List.getElem?_eq_some_iff.1 ho).1 ((j.ku l o ho hl).2 h2) i hb] at hi; cases hi
    refine ⟨_, k.obAt j (i := i) (j' := j') (Nat.le_trans h1 j.kl) h2 (fun l r hld hlt => ?_) hd, h4⟩
    rcases Nat.lt_or_ge l j' with g | g
    · exact g
    · exact absurd hlt fun _ => h3 l r hld g hlt
  · rcases first c κ i gle with hn | ⟨l, o, h1, h2, h3, h4, h5⟩
    · obtain ⟨_, _, _, _, _, _, h5, _⟩ := h
      exact ⟨_, k.obAt j (i := i) (j' := i) (by omega) (k.still gle (by omega) fun l r h1 h2 hld => quiet hld fun o ho => hn l o h1 h2 ho) (fun l r _ _ => by omega) hd, h5⟩
    · have hb : bit (c.D i) l = false := by
        cases hb : bit (c.D i) l with
        | false => rfl
        | true => have := (j.ku l o h3 h4).1 (hd l hb); omega
      refine ⟨_, k.obAt j (i := i) (j' := l) (by omega) (k.still h1 (by omega) fun l' r h1 h2 hld => quiet hld fun o ho => h5 l' o h1 h2 ho) (fun l' r _ _ => by omega) hd, k.read_ahead h h2 h3 h4 hb⟩

theorem Ok.run1 (k : c.Ok) (s : Js c N ds done β a) (j : Jm c β0 w0 done κ β w) (g : Gl β0 (c.n 0)) (hL : Lb c.lv (c.vw 0).h) (hih : IhS c.P c.ih) {F : Fence} (hF : OpF c.P F) {Q : Exit → Act → World → Prop} {K : Act → World → Prop} (hN : (c.ops.all fun o => dOk N o.dst) = true)
    {i : Nat} (hil : i < c.ops.length) (hi : done i = false) (hd : ∀ t, bit (c.D i) t = true → done t = true)
    (hK : ∀ a' w' κ' β', Js c N ds (dn done i) β' a' → Jm c β0 w0 (dn done i) κ' β' w' → K a' w') : wpOpIn F 0 c.P c.ops.toArray Q i K a w := by
  obtain ⟨o, ho⟩ : ∃ o, c.ops[i]? = some o := ⟨c.ops[i], by simp [hil]⟩
  have hdo : dOk N o.dst = true := by
    rw [List.all_eq_true] at hN
    exact hN o (List.mem_of_getElem? ho)
  unfold wpOpIn
  have ho' : c.ops.toArray[i]? = some o := by simpa using ho
  rw [ho']
  simp only
  have kept : (∀ x, ¬ c.New i x) → loud c.P o.op = false → Jm c β0 w0 (dn done i) κ β w := fun hn hq =>
    Jm.move k j (Nat.le_refl _) j.kl rfl (fun _ _ _ h => h) (fun l ol hol hll => by
      rw [dn_ne]
      · exact j.ku l ol hol hll
      · rintro rfl; rw [ho] at hol; cases Option.some.inj hol; rw [hq] at hll; cases hll) hn
  have nonew : ∀ {x : Pn}, c.New i x → ∃ g q, c.W i o ∧ puD c.P (c.cx i) o.op = none ∧ meD c.P (c.cx i) o.op = none ∧ neD c.P (c.cx i) o.op = some g ∧ g.f (c.st i) c.m = some q := fun {x} hx => by
    obtain ⟨o', g, q, h1, h2, h3, h4, h5, _⟩ := hx
    have e := h1.1; rw [ho] at e; cases Option.some.inj e
    exact ⟨g, q, h1, h2, h3, h4, h5⟩
  have valI : ∀ {b : A} {l : List A}, (c.zf (i + 1)).st = b :: l → c.val i = b := fun e => by unfold Tc.val; rw [e]
  have wnt : ∀ {o'}, c.W i o' → o' = o ∧ Region.wanted o (yielded c.ops.toArray a.tmps) = true := fun {o'} hw => by
    have e := hw.1; rw [ho] at e; cases Option.some.inj e
    exact ⟨rfl, k.wanted s hi hd hw⟩
  have hρ := k.oper s j g ho hi hd
  rcases k.step hil with hoff | ⟨o1, gg, x, h1, h2, h3, e⟩ | ⟨gg, x, hrd⟩ | ⟨x, hnew⟩ | ⟨r, hld⟩
  · have hoff' := hoff
    obtain ⟨o1, gg, h1, h2, h3, e⟩ := hoff
    rw [ho] at h1; cases Option.some.inj h1
    rw [if_neg (by rw [k.guard s ho hi hd h2 h3]; decide)]
    refine ⟨fun f _ => hF.op.fn f, ?_⟩
    have hnn : ∀ x, ¬ c.New i x := fun x hx => by
      obtain ⟨_, _, hw, _⟩ := nonew hx
      exact hoff'.not hw
    have hnl : ∀ r, ¬ c.Ld i r := fun r hx => by
      obtain ⟨_, hw, _⟩ := hx
      exact hoff'.not hw
    have hv : V (rs β (c.n (i + 1))) (c.val i) = some undef := by rw [valI (by rw [e])]; rfl
    cases hlo : loud c.P o.op with
    | false => exact hK _ _ κ β (s.put k ho hd hdo (Be.le_refl β) hv) (kept hnn hlo)
    | true =>
      obtain ⟨g1, g2⟩ := k.ahead j ho hlo hi hd
      refine hK _ _ (i + 1) β (s.put k ho hd hdo (Be.le_refl β) hv) (Jm.move k j (by omega) (by omega) (k.still (by omega) (by omega) fun l r h1 h2 hx => ?_) (fun _ _ _ h => by omega) (fun l ol hol hll => ?_) hnn)
      · by_cases e : l = i
        · subst e; exact hnl r hx
        · exact g2 l r h1 (by omega) hx
      · by_cases e : l = i
        · subst e; rw [dn_self]; simp
        · rw [dn_ne e]
          rcases Nat.lt_or_ge l i with g | g
          · have := hd l (k.rg.ld hol ho g hll hlo)
            rw [this]; simp; omega
          · have := j.ku l ol hol hll
            rw [this]; omega
  · obtain ⟨rfl, hw⟩ := wnt h1
    rw [if_pos hw]
    obtain ⟨v, g1, g2⟩ := pu_ok h2 h3 hρ
    refine val_in hF (fun cl e => by rw [e] at h2; cases h2) (fun d ty pos aft gd => g2 w d ty pos aft gd) (hK _ _ κ β (s.put k ho hd hdo (Be.le_refl β) ?_) (kept (fun x hx => ?_) (by rw [loud_c (c.cx i), h2]; rfl)))
    · rw [valI (by rw [e])]
      have : c.n (i + 1) = c.n i := by unfold Tc.n; rw [e]; rfl
      rw [this]; exact g1
    · obtain ⟨_, _, _, h4, _⟩ := nonew hx
      rw [h2] at h4; cases h4
  · obtain ⟨h', hob, hx⟩ := k.read s j hrd hil hi hd
    obtain ⟨o1, g', h1, h2, h3, h4, h5, h6, h7, e⟩ := hrd
    obtain ⟨rfl, hw⟩ := wnt h1
    rw [if_pos hw]
    subst h4
    obtain ⟨v, g1, g2⟩ := me_ok hob h3 hx fun z hz b e => V_le (rs_le _ _) _ _ (hρ z hz b e)
    refine val_in hF (fun cl e => by rw [e] at h3; cases h3) (fun d ty pos aft gd => g2 d ty pos aft gd) (hK _ _ κ β (s.put k ho hd hdo (Be.le_refl β) ?_) (kept (fun x hx => ?_) (by rw [loud_c (c.cx i), h3]; simp)))
    · rw [valI (by rw [e])]
      have : c.n (i + 1) = c.n i := by unfold Tc.n; rw [e]; rfl
      rw [this]; exact nmB_ok _ _ h6 g1
    · obtain ⟨_, _, _, _, h4, _⟩ := nonew hx
      rw [h3] at h4; cases h4
  · have hnew' := hnew
    obtain ⟨o1, g', q, h1, h2, h3, h4, h5, h6, e⟩ := hnew
    obtain ⟨rfl, hw⟩ := wnt h1
    rw [if_pos hw]
    obtain ⟨obj, sz, v, g1, g2, g3⟩ := ne_ok (h := .lf) (n := c.n i) (w := w) h4 h5 hρ
    obtain ⟨j1, j2⟩ := Jm.new k j hnew' hi (obj := obj) (sz := sz) (by rw [h6]; exact g2)
    refine val_in hF (fun cl e => by rw [e] at h4; cases h4) (fun d ty pos aft gd => g1 d ty pos aft gd) (hK _ _ κ _ (s.put k ho hd hdo j2 ?_) j1)
    rw [valI (by rw [e])]
    refine g3 _ ?_
    obtain ⟨e1, _⟩ := hnew'.n
    rw [rs_lt (by rw [e1, Po.n_s]; omega), upB_eq]
  · have hld' := hld
    obtain ⟨o1, h1, h2, h3, h4, h5, e⟩ := hld
    obtain ⟨rfl, hw⟩ := wnt h1
    rw [if_pos hw]
    obtain ⟨g1, g2⟩ := k.ahead j ho h2 hi hd
    refine op_inR hF (k.okAt j hil g1 g2 hd) (k.gl j g (by omega)) (fun q x hq => ?_) hih h3 hρ fun β' v w' hv M => ?_
    · rcases k.part j (i := i) (j' := i) (by omega) (k.still g1 (by omega) g2) (fun l r _ h => by omega) hd hq with h | ⟨y, _, y2, _, _, y5⟩
      · exact j.lvb c.lv (Nat.le_refl _) hL q x h
      · rw [← y5, y2.1.n.2.2.2.1]; exact Nat.le_refl _
    obtain ⟨βn, m1, m2, m3⟩ := Jm.loud k j hld' hi g1 g2 hd M
    refine hK _ _ (i + 1) βn (s.put k ho hd hdo m1 ?_) m3
    rw [valI (by rw [e]), m2]; exact hv
end
end Tc
end Go.Ev
namespace Go.Ev
open Go.RowKit
section
variable {P : Program} {X : Nat → Bool} {ih : Ih} {lv : Nat} {F : Fence} {Q : Exit → Act → World → Prop}
theorem getD_set {l : Array Bool} {i : Nat} (hi : i < l.size) (j : Nat) : (l.setIfInBounds i true).getD j true = Tc.dn (fun j => l.getD j true) i j := by
  unfold Tc.dn
  by_cases e : j = i
  · subst e; simp [hi]
  · have e2 : i ≠ j := fun h => e h.symm
    simp [Array.getD_eq_getD_getElem?, Array.getElem?_setIfInBounds_ne e2, e]
def und (l : Array Bool) : Nat := l.toList.count false
theorem und_set {l : Array Bool} {i : Nat} (hi : i < l.size) (h : l.getD i true = false) : und (l.setIfInBounds i true) + 1 = und l := by
  unfold und
  have hi' : i < l.toList.length := by simpa using hi
  have hl : l.toList[i] = false := by simpa [hi] using h
  rw [Array.toList_setIfInBounds, List.count_set hi', hl]
  have : 0 < l.toList.count false := List.count_pos_iff.2 (by rw [← hl]; exact List.getElem_mem hi')
  rw [if_pos (by rfl), if_neg (by decide)]; omega
theorem und_pos {l : Array Bool} {i : Nat} (h : l.getD i true = false) : 0 < und l := by
  have hi : i < l.size := by
    rcases Nat.lt_or_ge i l.size with g | g
    · exact g
    · rw [Array.getD_eq_getD_getElem?, Array.getElem?_eq_none g] at h; cases h
  have := und_set hi h; omega
namespace Tc
variable {c : Tc} {N : Nat} {ds : List Deferred} {β0 : Be} {w0 : World}
theorem Ok.alldone (k : c.Ok) {l : Array Bool} (hl : l.size = c.ops.length) (hr : Region.ready .any c.ops.toArray l = []) : ∀ i, i < c.ops.length → l.getD i true = true := by
  intro i
  induction i using Nat.strongRecOn with
  | _ i ih =>
    intro hi
    cases h : l.getD i true with
    | true => rfl
    | false =>
      obtain ⟨o, ho⟩ : ∃ o, c.ops[i]? = some o := ⟨c.ops[i], by simp [hi]⟩
      have : i ∈ Region.ready .any c.ops.toArray l := mem_ready.2 ⟨h, o, by simpa using ho, fun e he hb => by
        have hlt := k.rg.on ho e (by simpa using he) hb
        have := ih e.on hlt (by omega)
        have h2 : e.on < l.size := by omega
        rw [Array.getD_eq_getD_getElem?, Array.getElem?_eq_getElem h2] at this ⊢
        exact this⟩
      rw [hr] at this; cases this

theorem Ok.any (k : c.Ok) (g : Gl β0 (c.n 0)) (hL : Lb c.lv (c.vw 0).h) (hih : IhS c.P c.ih) (hF : OpF c.P F) (hN : (c.ops.all fun o => dOk N o.dst) = true)
    (hQ : ∀ κ β a w, (∀ done, (∀ i, i < c.ops.length → done i = true) → Js c N ds done β a → Jm c β0 w0 done κ β w → Q .normal a w)) : ∀ (f : Nat) (l : Array Bool) (a : Act) (w : World) (κ : Nat) (β : Be), l.size = c.ops.length → Js c N ds (fun i => l.getD i true) β a → Jm c β0 w0 (fun i => l.getD i true) κ β w → und l ≤ f → wpAnyIn F 0 c.P .any c.ops.toArray Q f l a w
  | 0, l, a, w, κ, β, hl, s, j, hu => by
    have hr : Region.ready .any c.ops.toArray l = [] := by
      cases h : Region.ready .any c.ops.toArray l with
      | nil => rfl
      | cons i r =>
        have : i ∈ Region.ready .any c.ops.toArray l := by rw [h]; simp
        have := und_pos (mem_ready.1 this).1
        omega
    exact ⟨hr, hQ κ β a w _ (k.alldone hl hr) s j⟩
  | f + 1, l, a, w, κ, β, hl, s, j, hu => by
    refine ⟨fun hr => hQ κ β a w _ (k.alldone hl hr) s j, fun i hi => ?_⟩
    obtain ⟨h1, o, h2, h3⟩ := mem_ready.1 hi
    have ho : c.ops[i]? = some o := by simpa using h2
    have hil := (List.getElem?_eq_some_iff.1 ho).1
    refine k.run1 s j g hL hih hF hN hil h1 (fun t ht => ?_) fun a' w' κ' β' s' j' => ?_
    · obtain ⟨e, e1, e2, e3⟩ := k.rg.ex ho ht
      have hd := h3 e (by simpa using e1) e2
      have hlt := k.rg.on ho e e1 e2
      have h4 : l.getD e.on true = true := by
        have h2 : e.on < l.size := by omega
        rw [Array.getD_eq_getD_getElem?, Array.getElem?_eq_getElem h2] at hd ⊢
        exact hd
      rcases e3 with e3 | e3
      · subst e3; exact h4
      · exact s.cl e.on (by omega) h4 t e3
    · have hfun : (fun j => (l.setIfInBounds i true).getD j true) = dn (fun j => l.getD j true) i := by
        funext x; exact getD_set (by omega) x
      have hu' := und_set (by omega) h1
      exact k.any g hL hih hF hN hQ f _ a' w' κ' β' (by simpa using hl) (by rw [hfun]; exact s') (by rw [hfun]; exact j') (by omega)
end Tc
theorem anyL_ok {ls : List Bool} {D : List Nat} {i l : Nat} (h : i < l) (h2 : ls[l]? = some true) (h3 : bit (D.getD l 0) i = false) : anyL ls D i = true := by
  unfold anyL
  rw [List.any_eq_true]
  refine ⟨l, List.mem_range.2 (List.getElem?_eq_some_iff.1 h2).1, ?_⟩
  have : ls.getD l false = true := by simp [List.getD, h2]
  rw [this, h3, Nat.ble_eq_true_of_le h]; rfl
theorem draw_ok (hF : OpF P F) (hih : IhS P ih) {ops : Array Oper} {N : Nat} {m : Tr A} {h : Tr B} {n : Po} {β : Be} {a : Act} {w : World} {r : R} {id : Nat} (hr : (drawD P X ops.toList).f ih lv m h n = some r) (hN : (ops.toList.all fun o => dOk N o.dst) = true)
    (hs : a.tmps.size = N) (hk : Ok β h n w) (hg : Gl β n) (hL : Lb lv h) (hsl : Sl X β m a.tmps)
    (hQ : ∀ β' a' w', r.e = .nm → Sl X β' r.m a'.tmps → a'.tmps.size = N → a'.defers = a.defers → Mv lv β h n w β' r.h r.n w' → Q .normal a' w') : (Code.region id ops true).wpIn F 0 P Q a w := by
  unfold drawD at hr
  simp only [cn_eq] at hr
  split at hr
  · rename_i hc
    rw [Bool.and_eq_true, Bool.and_eq_true] at hc
    obtain ⟨hc1, hc2, hc3⟩ := hc
    have hX : X 1000000 = false := by simpa using hc2
    have hr1 : bd ((drawL P X ops.toList (dms ops.toList []) (ops.toList.map fun o => loud P o.op) ops.toList 0 []).f ih lv m ⟨[], ⟨h, []⟩, n, [], []⟩) (fun z => some (⟨.nm, u0, (flD X (ops.toList.map dstN).reverse).f z.st m, actA z.v, z.n⟩ : R)) = some r := by
      rw [← hr]
    obtain ⟨zL, h1, h2⟩ := bd_some hr1
    cases Option.some.inj h2
    obtain ⟨zf, z0, z1, z2⟩ := drawL_tr h1
    rw [Nat.zero_add] at z1
    let c : Tc := ⟨P, ih, lv, m, X, ops.toList, fun k => (dms ops.toList []).getD k 0, anyL (ops.toList.map fun o => loud P o.op) (dms ops.toList []), zf⟩
    have hcx : c.Ok := ⟨okR_ok hc3, fun i o ho => by
      have := z2 i o ho
      simp only [Nat.zero_add, List.append_nil] at this
      exact this, by show (zf 0).hs = []; rw [z0], by show (zf 0).ms = []; rw [z0], by show (zf 0).v.pd = []; rw [z0], by show (zf 0).st = []; rw [z0],
      fun i l o hil ho hl hb => anyL_ok hil (by rw [List.getElem?_map]; show Option.map _ (ops.toList[l]?) = _; rw [show ops.toList[l]? = some o from ho]; simp only [Option.map_some]; exact congrArg some hl) hb⟩
    have hn0 : c.n 0 = n := by show (zf 0).n = n; rw [z0]
    have hv0 : c.vw 0 = ⟨h, []⟩ := by show (zf 0).v = _; rw [z0]
    have hrs : rs β n = β := by
      funext q
      unfold rs
      split
      · rfl
      · rename_i h1; exact (hk.top q (by omega)).symm
    have hlen : c.ops.length = ops.size := by show ops.toList.length = _; simp
    refine wpIn_region_any hc1 ?_
    have f0 : ∀ i, i < c.ops.length → (Array.replicate ops.size false).getD i true = false := fun i hi => by
      have : i < ops.size := by omega
      simp [this]
    have f1 : ∀ i o, c.ops[i]? = some o → (Array.replicate ops.size false).getD i true = true → False := fun i o ho h => by
      rw [f0 i (List.getElem?_eq_some_iff.1 ho).1] at h; cases h
    have hop : ops = c.ops.toArray := by show ops = ops.toList.toArray; simp
    have hfin : ∀ κ β' a' w', (∀ done, (∀ i, i < c.ops.length → done i = true) → Tc.Js c N a.defers done β' a' → Tc.Jm c β w done κ β' w' → Q .normal a' w') := fun κ β' a' w' done hd s j => by
      have hst : (c.vw c.ops.length).h = (c.vw κ).h := hcx.still j.kl (Nat.le_refl _) fun l r h1 h2 hl => by
        obtain ⟨o, ho, hlo⟩ := hl.loud
        have := (j.ku l o ho hlo).1 (hd l h2); omega
      have hzL : c.zf c.ops.length = zL := by
        have : zf ops.toList.length = zL := z1
        exact this
      have hpart : ∀ {q b}, (actA zL.v).get q = some b → (c.vw κ).h.get q = some b ∨ ∃ x, Tc.PN c done κ x.j x ∧ x.n = q ∧ x.b = b := fun {q b} hq => by
        rcases actA_get hq with ⟨x, g1, g2, g3⟩ | g1
        · obtain ⟨k1, k2, k3⟩ := hcx.pend (Nat.le_refl _) (x := x) (by unfold Tc.vw; rw [hzL]; exact g1)
          exact .inr ⟨x, ⟨k2, hd _ k1, fun l r hl hlt => k3 l r hl (Nat.lt_of_lt_of_le hlt j.kl)⟩, g2, g3⟩
        · refine .inl ?_
          rw [← hst]; unfold Tc.vw; rw [hzL]; exact g1
      have hcv : ∀ {q b}, (actA zL.v).get q = some b → Tc.InH c done κ q b := fun {q b} hq => by
        rcases hpart hq with g | ⟨x, g1, g2, g3⟩
        · exact .inl g
        · exact .inr ⟨_, x, g1, g2, g3⟩
      have hnL : c.n c.ops.length = zL.n := by unfold Tc.n; rw [hzL]
      refine hQ β' a' w' rfl ?_ s.size s.defs ⟨by rw [← hn0, ← hnL]; exact hcx.nle (Nat.zero_le _) (Nat.le_refl _), fun q hq => j.bl q (by rw [hn0]; exact hq), ⟨fun q b hq => j.all (hcv hq), fun q q' b b' p p' g g' k1 k2 e => j.inj q q' b b' p p' (hcv g) (hcv g') k1 k2 e, fun q hq => j.bt q (by rw [hnL]; exact hq)⟩,
        j.near.os, j.near.tape, j.near.out, j.near.drawn, j.sz, fun b hb hh => j.fr b hb fun q x p h1 h2 h3 => hh q x p (by rw [hv0] at h1; exact h1) h2 h3, fun q x p hq hp hlt => ?_, fun K hK hh q x hq => ?_⟩
      · have hl2 : (c.st c.ops.length).length = (c.loc c.ops.length).length := hcx.len (Nat.le_refl _)
        have hloc : c.loc c.ops.length = (ops.toList.map dstN).reverse := by
          unfold Tc.loc
          rw [List.take_length]
        have hstL : c.st c.ops.length = zL.st := by unfold Tc.st; rw [hzL]
        intro t b hX' hb
        rw [← hloc, ← hstL] at hb
        have hb : ev (c.cx c.ops.length) (.tmp t) (c.st c.ops.length) c.m = some b := by rw [← hb]; exact (fl_get hX' hl2).symm
        have ht : t ≠ 1000000 := by rintro rfl; rw [hX] at hX'; cases hX'
        by_cases hx : ∃ (i : Nat) (o : Oper), c.ops[i]? = some o ∧ o.dst = some t
        · obtain ⟨i, o, ho, hod⟩ := hx
          have hil := (List.getElem?_eq_some_iff.1 ho).1
          rw [hcx.ev_some ho hod ht (Nat.le_refl _) hil] at hb
          cases Option.some.inj hb
          obtain ⟨v, g1, g2⟩ := s.sl i o t ho (hd i hil) hod
          exact ⟨v, V_le (rs_le _ _) _ _ g1, g2⟩
        · rw [hcx.ev_none ht (Nat.le_refl _) fun i o _ ho hod => hx ⟨i, o, ho, hod⟩, cn_eq, if_pos hX'] at hb
          obtain ⟨v, g1, g2⟩ := s.cr t b hX' hb fun i o ho _ hod => hx ⟨i, o, ho, hod⟩
          exact ⟨v, V_le (rs_le _ _) _ _ g1, g2⟩
      · rcases hpart hq with g | ⟨y, g1, g2, g3⟩
        · obtain ⟨q0, c0, p0, k1, k2, k3, k4⟩ := j.src q x p g hp hlt
          exact ⟨q0, c0, p0, by rw [hv0] at k1; exact k1, k2, k3, k4⟩
        · obtain ⟨_, p0, _, k1, _, _, k4⟩ := j.pn _ y g1
          have h8 := rs_le _ _ _ _ k1
          rw [g2, hp] at h8; cases h8
          omega
      · rcases hpart hq with g | ⟨y, g1, g2, g3⟩
        · exact j.lvb K hK (by rw [hv0]; exact hh) q x g
        · rw [← g3, g1.1.n.2.2.2.1]; exact hK
    have hinj : ∀ q q' b b' p p', Tc.InH c (fun i => (Array.replicate ops.size false).getD i true) 0 q b → Tc.InH c (fun i => (Array.replicate ops.size false).getD i true) 0 q' b' → β q = some p → β q' = some p' → p.blk = p'.blk → q = q' := by
      have old : ∀ {q b}, Tc.InH c (fun i => (Array.replicate ops.size false).getD i true) 0 q b → h.get q = some b := fun {q b} g => by
        rcases g with g | ⟨i, x, g, _⟩
        · rw [hv0] at g; exact g
        · have h5 : (Array.replicate ops.size false).getD i true = true := g.2.1
          rw [f0 i g.1.n.2.2.2.2] at h5; cases h5
      exact fun q q' b b' p p' g g' => hk.inj q q' b b' p p' (old g) (old g')
    have main := Tc.Ok.any (F := F) (Q := Q) (ds := a.defers) (w0 := w) (β0 := β) (N := N) hcx (by rw [hn0]; exact hg) (by rw [hv0]; exact hL) hih hF hN hfin ops.size (Array.replicate ops.size false) a { w with drawn := w.drawn + 1 } 0 β (by simp [hlen])
      ⟨hs, rfl, fun i hi h => (by rw [f0 i hi] at h; cases h), fun i o d ho h => (f1 i o ho h).elim, fun t b hX hb _ => (by rw [hn0, hrs]; exact hsl t b hX hb)⟩
      ⟨Nat.zero_le _, fun l o ho hl => ⟨fun h => (f1 l o ho h).elim, fun h => by omega⟩, fun q _ => rfl, fun i hi _ q hq _ => hk.top q (by have := hcx.nle (Nat.zero_le i) (by omega); rw [hn0] at this; omega),
        fun q hq => hk.top q (by have := hcx.nle (Nat.zero_le c.ops.length) (Nat.le_refl _); rw [hn0] at this; omega),
        fun q b h => (by rw [hn0, hrs]; rw [hv0] at h; exact hk.ob q b h),
        fun i x hx => (by have h5 : (Array.replicate ops.size false).getD i true = true := hx.2.1; rw [f0 i hx.1.n.2.2.2.2] at h5; cases h5),
        hinj, ⟨rfl, rfl, rfl, Nat.le_succ _⟩, Nat.le_refl _, fun _ _ _ => rfl, fun q x p h g _ => ⟨q, x, p, h, g, rfl, fun h => h⟩, fun _ _ h => h⟩ (by
          have : und (Array.replicate ops.size false) ≤ (Array.replicate ops.size false).toList.length := List.count_le_length
          simpa using this)
    have e1 : c.ops.toArray = ops := hop.symm
    rw [e1] at main
    exact main
  · cases hr
end
end Go.Ev
namespace Go.Ev
open Go.RowKit

def DfOk (b0 : Nat) (β : Be) (h : Tr B) (w : World) : List Deferred → Prop
  | [] => True
  | d :: l => (∃ D, d = { target := .collected D, args := #[] } ∧ b0 ≤ D ∧ w.heap[D]? = some (.deferred (some [])) ∧ (∀ q x p, h.get q = some x → β q = some p → p.blk ≠ D) ∧ ∀ d' ∈ l, d' ≠ d) ∧ DfOk b0 β h w l
theorem DfOk.mv {b0 lv : Nat} {β β' : Be} {h h' : Tr B} {n n' : Po} {w w' : World} (M : Mv lv β h n w β' h' n' w') : ∀ {l : List Deferred}, DfOk b0 β h w l → DfOk b0 β' h' w' l
  | [], _ => trivial
  | d :: l, ⟨⟨D, h1, h2, h3, h4, h5⟩, k⟩ => by
    have hD := (Array.getElem?_eq_some_iff.1 h3).1
    refine ⟨⟨D, h1, h2, ?_, fun q x p hq hp e => ?_, h5⟩, k.mv M⟩
    · rw [M.fr D hD fun q x p hq _ hp => h4 q x p hq hp]; exact h3
    · obtain ⟨q0, c0, p0, g1, g2, g3, _⟩ := M.src q x p hq hp (by omega)
      exact h4 q0 c0 p0 g1 g2 (by omega)

structure Sta (X : Nat → Bool) (N b0 lv : Nat) (β : Be) (m : Tr A) (h : Tr B) (n : Po) (a : Act) (w : World) : Prop where
  sl : Sl X β m a.tmps
  sz : a.tmps.size = N
  ok : Ok β h n w
  gl : Gl β n
  lb : Lb lv h
  df : DfOk b0 β h w a.defers
  b0 : b0 ≤ w.heap.size
def exO : Ex → Exit
  | .nm => .normal
  | .ex id => .exit id
  | .rt => .ret
section
variable {P : Program} {X : Nat → Bool} {N b0 : Nat} {lv : Nat} {ih : Ih} {F : Fence} {rf : Bool}
theorem codD_seq (x y : Code) (m : Tr A) (h : Tr B) (n : Po) : (codD P rf X (.seq x y)).f ih lv m h n = bd ((codD P rf X x).f ih lv m h n) fun r => Ex.casesOn r.e ((codD P rf X y).f ih lv r.m r.h r.n) (fun _ => some r) (some r) := by
  show (Bx.casesOn (motive := fun _ => Bx Co) (codD P rf X x) fun a => Bx.casesOn (motive := fun _ => Bx Co) (codD P rf X y) fun b => ⟨fun ih lv m h n => bd (a ih lv m h n) fun r => Ex.casesOn r.e (b ih lv r.m r.h r.n) (fun _ => some r) (some r)⟩).f ih lv m h n = _
  cases codD P rf X x with
  | mk a => cases codD P rf X y with
    | mk b => rfl
theorem codD_cond (c : Operand) (x y : Code) (m : Tr A) (h : Tr B) (n : Po) : (codD P rf X (.cond c x y)).f ih lv m h n = bd (ev ⟨X, []⟩ c [] m) fun v => bd v.B fun t => cn t ((codD P rf X x).f ih lv m h n) ((codD P rf X y).f ih lv m h n) := by
  show (Bx.casesOn (motive := fun _ => Bx Co) (codD P rf X x) fun a => Bx.casesOn (motive := fun _ => Bx Co) (codD P rf X y) fun b => ⟨fun ih lv m h n => bd (ev ⟨X, []⟩ c [] m) fun v => bd v.B fun t => cn t (a ih lv m h n) (b ih lv m h n)⟩).f ih lv m h n = _
  cases codD P rf X x with
  | mk a => cases codD P rf X y with
    | mk b => rfl
theorem codD_block (id : Nat) (x : Code) (m : Tr A) (h : Tr B) (n : Po) : (codD P rf X (.block id x)).f ih lv m h n = bd ((codD P rf X x).f ih lv m h n) fun r => Ex.casesOn r.e (some r) (fun i => bif Nat.beq i id then some ⟨.nm, u0, r.m, r.h, r.n⟩ else some r) (some r) := by
  show (Bx.casesOn (motive := fun _ => Bx Co) (codD P rf X x) fun a => ⟨fun ih lv m h n => bd (a ih lv m h n) fun r => Ex.casesOn r.e (some r) (fun i => bif Nat.beq i id then some ⟨.nm, u0, r.m, r.h, r.n⟩ else some r) (some r)⟩).f ih lv m h n = _
  cases codD P rf X x with
  | mk a => exact Eq.refl _
theorem codD_loop (x : Code) (m : Tr A) (h : Tr B) (n : Po) : (codD P rf X (.loop x)).f ih lv m h n = loopN ((codD P rf X x).f ih lv) lim m h n := by
  show (Bx.casesOn (motive := fun _ => Bx Co) (codD P rf X x) fun a => ⟨fun ih lv m h n => loopN (a ih lv) lim m h n⟩).f ih lv m h n = _
  cases codD P rf X x with
  | mk a =>
    dsimp only
theorem codD_scope (x : Code) (m : Tr A) (h : Tr B) (n : Po) : (codD P rf X (.scope x)).f ih lv m h n = gu rf ((codD P rf X x).f ih lv m h n) := by
  show (Bx.casesOn (motive := fun _ => Bx Co) (codD P rf X x) fun a => ⟨fun ih lv m h n => gu rf (a ih lv m h n)⟩).f ih lv m h n = _
  cases codD P rf X x with
  | mk a => rfl
theorem codD_region (id : Nat) (ops : Array Oper) (m : Tr A) (h : Tr B) (n : Po) : (codD P rf X (.region id ops false)).f ih lv m h n = (listD P X ops.toList ops.toList []).f ih lv [] m h n := by
  show (Bx.casesOn (motive := fun _ => Bx Co) (listD P X ops.toList ops.toList []) fun f => ⟨fun ih lv m h n => f ih lv [] m h n⟩).f ih lv m h n = _
  cases listD P X ops.toList ops.toList [] with
  | mk a => rfl

def CoS (P : Program) (ih : Ih) (rf : Bool) (X : Nat → Bool) (N : Nat) (F : Fence) (c : Code) : Prop := ∀ {Q : Exit → Act → World → Prop} {lv b0 : Nat} {m : Tr A} {h : Tr B} {n : Po} {β : Be} {a : Act} {w : World} {r : R}, (codD P rf X c).f ih lv m h n = some r → Sta X N b0 lv β m h n a w →
  (∀ β' a' w', Sta X N b0 lv β' r.m r.h r.n a' w' → Mv lv β h n w β' r.h r.n w' → Q (exO r.e) a' w') → c.wpIn F 0 P Q a w
theorem Sta.mv {β β' : Be} {m m' : Tr A} {h h' : Tr B} {n n' : Po} {a a' : Act} {w w' : World} (s : Sta X N b0 lv β m h n a w) (M : Mv lv β h n w β' h' n' w') (h1 : Sl X β' m' a'.tmps) (h2 : a'.tmps.size = N) (h3 : a'.defers = a.defers) : Sta X N b0 lv β' m' h' n' a' w' :=
  ⟨h1, h2, M.ok, s.gl.mv M, M.lvb lv (Nat.le_refl _) s.lb, by rw [h3]; exact s.df.mv M, Nat.le_trans s.b0 M.size⟩
theorem co_region (hF : OpF P F) (hih : IhS P ih) {id : Nat} {ops : Array Oper} {dr : Bool} (hN : okC N (.region id ops dr) = true) : CoS P ih rf X N F (.region id ops dr) := by
  intro Q lv b0 m h n β a w r hr s hQ
  have hN : (ops.toList.all fun o => dOk N o.dst) = true := hN
  have fin : ∀ β' a' w', r.e = .nm → Sl X β' r.m a'.tmps → a'.tmps.size = N → a'.defers = a.defers → Mv lv β h n w β' r.h r.n w' → Q .normal a' w' := fun β' a' w' h1 h2 h3 h4 M => by
    have := hQ β' a' w' (s.mv M h2 h3 h4) M
    rw [h1] at this; exact this
  cases dr with
  | true => exact draw_ok hF hih (show (drawD P X ops.toList).f ih lv m h n = some r from hr) hN s.sz s.ok s.gl s.lb s.sl fin
  | false =>
    rw [codD_region] at hr
    exact wpIn_region_list (list_ok hF hih hr hN s.sz s.ok s.gl s.lb (RS.start s.sl) rfl fin)
theorem co_seq {x y : Code} (hx : CoS P ih rf X N F x) (hy : CoS P ih rf X N F y) : CoS P ih rf X N F (.seq x y) := by
  intro Q lv b0 m h n β a w r hr s hQ
  rw [codD_seq] at hr
  obtain ⟨r1, h1, h2⟩ := bd_some hr
  refine wpIn_seq (hx h1 s fun β' a' w' s' M => ?_)
  cases he : r1.e with
  | nm =>
    rw [he] at h2
    exact hy h2 s' fun β'' a'' w'' s'' M' => hQ β'' a'' w'' s'' (M.trans M')
  | ex id =>
    rw [he] at h2
    cases Option.some.inj h2
    have := hQ β' a' w' s' M
    rw [he] at this; exact this
  | rt =>
    rw [he] at h2
    cases Option.some.inj h2
    have := hQ β' a' w' s' M
    rw [he] at this; exact this
theorem co_cond {c : Operand} {x y : Code} (hx : CoS P ih rf X N F x) (hy : CoS P ih rf X N F y) : CoS P ih rf X N F (.cond c x y) := by
  intro Q lv b0 m h n β a w r hr s hQ
  rw [codD_cond] at hr
  obtain ⟨v, h1, h2⟩ := bd_some hr
  obtain ⟨t, h3, h4⟩ := bd_some h2
  have hv := ev_ok (RS.start s.sl) s.gl c v h1
  rw [A.B_eq h3] at hv
  refine wpIn_cond_split (t := t) (V_b hv) (fun e => ?_) fun e => ?_
  · subst e; exact hx h4 s hQ
  · subst e; exact hy h4 s hQ
theorem co_block {id : Nat} {x : Code} (hx : CoS P ih rf X N F x) : CoS P ih rf X N F (.block id x) := by
  intro Q lv b0 m h n β a w r hr s hQ
  rw [codD_block] at hr
  obtain ⟨r1, h1, h2⟩ := bd_some hr
  refine wpIn_block (hx h1 s fun β' a' w' s' M => ?_)
  cases he : r1.e with
  | nm =>
    rw [he] at h2
    cases Option.some.inj h2
    have := hQ β' a' w' s' M
    rw [he] at this; exact this
  | ex i =>
    rw [he] at h2
    replace h2 : (bif Nat.beq i id then some (⟨.nm, u0, r1.m, r1.h, r1.n⟩ : R) else some r1) = some r := h2
    show (if i = id then Q .normal a' w' else Q (.exit i) a' w')
    by_cases e : i = id
    · subst e
      rw [Nat.beq_refl] at h2
      cases Option.some.inj h2
      rw [if_pos rfl]
      exact hQ β' a' w' s' M
    · have : Nat.beq i id = false := by
        cases hb : Nat.beq i id with
        | false => rfl
        | true => exact absurd (Nat.eq_of_beq_eq_true hb) e
      rw [this] at h2
      cases Option.some.inj h2
      rw [if_neg e]
      have := hQ β' a' w' s' M
      rw [he] at this; exact this
  | rt =>
    rw [he] at h2
    cases Option.some.inj h2
    have := hQ β' a' w' s' M
    rw [he] at this; exact this
theorem co_loop {x : Code} (hx : CoS P ih rf X N F x) : CoS P ih rf X N F (.loop x) := by
  intro Q lv b0 m h n β a w r hr s hQ
  rw [codD_loop] at hr
  refine wpIn_loop_ghost (fun k a' w' => ∃ β' m' h' n', loopN ((codD P rf X x).f ih lv) k m' h' n' = some r ∧ Sta X N b0 lv β' m' h' n' a' w' ∧ Mv lv β h n w β' h' n' w') lim ⟨β, m, h, n, hr, s, Mv.refl s.ok⟩ ?_
  rintro k a1 w1 ⟨β1, m1, h1, n1, g1, g2, g3⟩
  cases k with
  | zero => cases g1
  | succ k =>
    obtain ⟨r1, k1, k2⟩ := bd_some (show bd ((codD P rf X x).f ih lv m1 h1 n1) (fun r => Ex.casesOn r.e (loopN ((codD P rf X x).f ih lv) k r.m r.h r.n) (fun _ => some r) (some r)) = some r from g1)
    refine hx k1 g2 fun β' a' w' s' M => ?_
    cases he : r1.e with
    | nm =>
      rw [he] at k2
      exact ⟨k, Nat.lt_succ_self k, β', r1.m, r1.h, r1.n, k2, s', g3.trans M⟩
    | ex i =>
      rw [he] at k2
      cases Option.some.inj k2
      have := hQ β' a' w' s' (g3.trans M)
      rw [he] at this; exact this
    | rt =>
      rw [he] at k2
      cases Option.some.inj k2
      have := hQ β' a' w' s' (g3.trans M)
      rw [he] at this; exact this
theorem co_scope {x : Code} (hrf : rf = true → F = Fence.wide) (hx : CoS P ih rf X N F x) : CoS P ih rf X N F (.scope x) := by
  intro Q lv b0 m h n β a w r hr s hQ
  rw [codD_scope] at hr
  obtain ⟨h1, h2⟩ := gu_some hr
  have hx := hx (Q := Exit.noGoto Q) h2 s fun β' a' w' s' M => by
    have := hQ β' a' w' s' M
    cases he : r.e <;> rw [he] at this <;> exact this
  rw [hrf h1] at hx ⊢
  exact wpIn_wide.2 (wp_scope_straight (wpIn_wide.1 hx))
end
end Go.Ev
