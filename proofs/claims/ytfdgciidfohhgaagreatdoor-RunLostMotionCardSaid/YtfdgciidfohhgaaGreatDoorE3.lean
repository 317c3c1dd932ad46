/-
  An evaluator of programs on given arguments, and that it is right.
-/
import Derived.Laws.Externs
import Derived.Lib.Bytealg
import Derived.Lib.Builder
import Derived.Lib.MakeNoZero
import Derived.Below
import Derived.Test.YtfdgciidfohhgaaGreatDoorE2
set_option linter.all false



namespace Go.Ev
open Go.RowKit
theorem DfOk.lt {b0 : Nat} {β : Be} {h : Tr B} {w : World} : ∀ {l : List Deferred}, DfOk b0 β h w l → ∀ d ∈ l, ∃ D, d = { target := .collected D, args := #[] } ∧ D < w.heap.size
  | _ :: _, ⟨⟨D, h1, _, h3, _⟩, k⟩, d, hd => by
    rcases List.mem_cons.1 hd with rfl | hd
    · exact ⟨D, h1, (Array.getElem?_eq_some_iff.1 h3).1⟩
    · exact k.lt d hd
section
variable {P : Program} {X : Nat → Bool} {N b0 : Nat} {lv : Nat} {ih : Ih} {F : Fence} {rf : Bool}

theorem Mv.hid {β : Be} {h : Tr B} {n : Po} {w : World} (k : Ok β h n w) (obj : Obj) : Mv lv β h n w β h n (w.alloc obj) := by
  have hh : ∀ {b : Nat}, b < w.heap.size → (w.alloc obj).heap[b]? = w.heap[b]? := fun {b} hb => by
    show (w.heap.push obj)[b]? = _; rw [Array.getElem?_push, if_neg (by omega)]
  refine ⟨Nat.le_refl _, fun _ _ => rfl, ⟨fun q b hb => ?_, k.inj, k.top⟩, rfl, rfl, rfl, Nat.le_refl _, by show w.heap.size ≤ (w.heap.push obj).size; simp, fun b hb _ => hh hb, fun q c p h1 h2 _ => ⟨q, c, p, h1, h2, rfl, fun h => h⟩, fun _ _ h => h⟩
  obtain ⟨p, o, g1, g2, g3⟩ := k.ob q b hb
  exact ⟨p, o, g1, by rw [hh (Array.getElem?_eq_some_iff.1 g2).1]; exact g2, g3⟩
theorem co_rangeFunc (hrf : rf = true → F = Fence.wide) (hih : IhS P ih) {f : Operand} {ps : Array Tmp} {asg body : Code} (hN : okC N (.rangeFunc f ps asg body) = true) : CoS P ih rf X N F (.rangeFunc f ps asg body) := by
  intro Q lv b0 m h n β a w r hr s hQ
  replace hr : (gu rf <| bd (ev ⟨X, []⟩ f [] m) fun v => match v with
    | .f g c => gu (hasB P g) <| bd (ih (.ca lv g (.y n :: c) (h.put (some ⟨.lp m X ps.toList asg body, lv⟩) n) n.s)) fun r => bd (r.h.get n) fun b => gu (Nat.ble lv b.lv) (match b.o with
      | .lp _ _ _ _ _ => some ⟨.nm, u0, m, r.h.put none n, r.n⟩
      | _ => none)
    | _ => none) = some r := hr
  obtain ⟨h1, hr1⟩ := gu_some hr
  clear hr
  obtain rfl := hrf h1
  obtain ⟨v, h2, hr2⟩ := bd_some hr1
  clear hr1
  split at hr2
  · rename_i g cv
    obtain ⟨h3, hr3⟩ := gu_some hr2
    obtain ⟨r1, h4, hr4⟩ := bd_some hr3
    obtain ⟨b, h5, hr5⟩ := bd_some hr4
    obtain ⟨h6, hr6⟩ := gu_some hr5
    clear hr2 hr3 hr4 hr5
    have h6 := Nat.le_of_ble_eq_true h6
    split at hr6
    · rename_i m' X' ps' as' bd' hbo
      cases Option.some.inj hr6
      obtain ⟨lb, l1, l2⟩ := V_f (ev_ok (RS.start s.sl) s.gl f _ h2)
      refine wpIn_rangeFunc fun fn _ => ?_
      obtain ⟨r0, hr0⟩ : ∃ r0 : Loop, r0 = { state := .ready, pending := none, fn, tmps := a.tmps, params := ps, assign := asg, body, defers := w.heap.size } := ⟨_, rfl⟩
      have M1 := Mv.hid (lv := lv) s.ok (.deferred (some []))
      have hsz1 : (w.alloc (.deferred (some []))).heap.size = w.heap.size + 1 := by show (w.heap.push _).size = _; simp
      have M2 := Mv.new (w' := (w.alloc (.deferred (some []))).alloc (.loop r0)) M1.ok lv lv (x := .lp m X ps.toList asg body) (obj := .loop r0) (sz := 0) (Nat.le_refl _) rfl ⟨rfl, rfl, rfl, Nat.le_refl _⟩
        ⟨r0, rfl, by rw [hr0], by rw [hr0], by rw [hr0], by rw [hr0], by rw [hr0], by rw [hr0]; exact s.sl, by rw [hr0]; show okC a.tmps.size _ = true; rw [s.sz]; exact hN⟩
      have M12 := M1.trans M2
      have hbn := upB_eq β n ⟨(w.alloc (.deferred (some []))).heap.size, 0, 0⟩
      have hvs : Vs (upB β n ⟨(w.alloc (.deferred (some []))).heap.size, 0, 0⟩) (.y n :: cv) = some (.func (.yield (w.heap.size + 1)) #[] #[] :: lb) := by
        refine Vs_mk ?_ (Vs_le (M12.be s.ok) _ _ l1)
        show Option.map _ _ = _
        rw [hbn]
        show some (Value.func (.yield (w.alloc (.deferred (some []))).heap.size) #[] #[]) = _
        rw [hsz1]
      rcases hih _ _ h4 _ _ _ hvs M2.ok (s.gl.mv M12) (M12.lvb lv (Nat.le_refl _) s.lb) with ⟨k1, _⟩ | ⟨k1, k2⟩
      · rw [h3] at k1; cases k1
      have eargs : (Value.func (.yield (w.heap.size + 1)) #[] #[] :: lb).toArray = #[.func (.yield (w.heap.size + 1)) #[] #[]] ++ lb.toArray := by apply Array.ext'; simp
      refine ⟨w.heap.size + 1, [{ target := .collected w.heap.size, args := #[] }], (w.alloc (.deferred (some []))).alloc (.loop r0), { target := .fn (.func g) lb.toArray, args := #[.func (.yield (w.heap.size + 1)) #[] #[]] }, (w.alloc (.deferred (some []))).alloc (.loop r0), g,
        (Value.func (.yield (w.heap.size + 1)) #[] #[] :: lb).toArray, (w.alloc (.deferred (some []))).alloc (.loop r0), ?_, ?_, fun _ _ => trivial, ?_, fun e => (by cases e), (callsIn_wide.2 k2).mono ?_⟩
      · rw [hr0]; exact run_enterLoop_outer _ _ _ _ _
      · simp only [resolve, l2]
        simp [go_sem]
      · rw [eargs] at k1 ⊢; simpa [invoke, go_sem] using k1
      · rintro e w' ⟨v', β', rfl, g3, M3⟩
        obtain ⟨p, o, q1, q2, q3⟩ := M3.ok.ob n b h5
        have hp : p = ⟨(w.alloc (.deferred (some []))).heap.size, 0, 0⟩ := by
          rw [M3.old n (by rw [Po.n_s]; omega), hbn] at q1; exact (Option.some.inj q1).symm
        rw [hbo] at q3
        obtain ⟨rr, rfl, s1, s2, _⟩ := q3
        have hpb : p.blk = w.heap.size + 1 := by rw [hp]; exact hsz1
        rw [hpb] at q2
        have M4 := Mv.gone (lv := lv) (w' := w'.putObj (w.heap.size + 1) (.loop { rr with state := .exhausted })) M3.ok h5 q1 h6 (by simp [World.putObj]) (fun x hx => by
          rw [hpb] at hx
          show (w'.heap.setIfInBounds _ _)[x]? = _
          rw [Array.getElem?_setIfInBounds_ne (Ne.symm hx)]) ⟨rfl, rfl, rfl, Nat.le_refl _⟩
        have M := (M12.trans M3).trans M4
        have hnone : ∀ q x p, (h.put (some ⟨.lp m X ps.toList asg body, lv⟩) n).get q = some x → upB β n ⟨(w.alloc (.deferred (some []))).heap.size, 0, 0⟩ q = some p → p.blk ≠ w.heap.size := fun q x p hq hp' => by
          rcases Tr.get_put _ hq with ⟨rfl, _⟩ | ⟨hne, hq⟩
          · rw [hbn] at hp'; cases hp'
            simp only [hsz1]; omega
          · rw [upB_ne β _ hne] at hp'
            have := s.ok.lt hq hp'; omega
        have hsz2 : ((w.alloc (.deferred (some []))).alloc (.loop r0)).heap.size = w.heap.size + 2 := by show ((w.heap.push _).push _).size = _; simp
        refine ⟨none, w'.putObj (w.heap.size + 1) (.loop { rr with state := .exhausted }), ?_, ?_⟩
        · rw [run_endLoop q2 (by rw [s1]; intro e; cases e), s2]
        · refine hQ β' { a with defers := [{ target := .collected w.heap.size, args := #[] }] ++ a.defers } _ ⟨s.sl.le (M.be s.ok), s.sz, M.ok, s.gl.mv M, M.lvb lv (Nat.le_refl _) s.lb, ⟨⟨w.heap.size, rfl, s.b0, ?_, fun q x p hq hp' e => ?_, fun d' hd' e => ?_⟩, s.df.mv M⟩, Nat.le_trans s.b0 M.size⟩ M
          · show (w'.heap.setIfInBounds _ _)[w.heap.size]? = _
            rw [Array.getElem?_setIfInBounds_ne (by omega), M3.fr w.heap.size (by omega) fun q x p hq _ hp' => hnone q x p hq hp']
            show ((w.heap.push _).push _)[w.heap.size]? = _
            rw [Array.getElem?_push, if_neg (by simp)]; simp
          · have hq' : r1.h.get q = some x := by
              rcases Tr.get_put _ hq with ⟨_, e2⟩ | ⟨_, e2⟩
              · cases e2
              · exact e2
            obtain ⟨q0, c0, p0, t1, t2, t3, _⟩ := M3.src q x p hq' hp' (by omega)
            exact hnone q0 c0 p0 t1 t2 (by omega)
          · obtain ⟨D, e1, e2⟩ := s.df.lt d' hd'
            rw [e1] at e
            injection e with e
            injection e with e
            omega
    · cases hr6
  · cases hr2

theorem cod_ok (hF : OpF P F) (hrf : rf = true → F = Fence.wide) (hih : IhS P ih) (c : Code) (hN : okC N c = true) : CoS P ih rf X N F c := by
  induction c with
  | skip => intro Q lv b0 m h n β a w r hr s hQ; cases Option.some.inj (show some (⟨.nm, u0, m, h, n⟩ : R) = some r from hr); exact wpIn_skip (hQ β a w s (Mv.refl s.ok))
  | region id ops dr => exact co_region hF hih hN
  | seq x y hx hy =>
    have : (okC N x && okC N y) = true := hN
    rw [Bool.and_eq_true] at this
    intro Q lv b0 m h n β a w r
    exact co_seq (hx this.1) (hy this.2)
  | cond x t e ht he =>
    have : (okC N t && okC N e) = true := hN
    rw [Bool.and_eq_true] at this
    intro Q lv b0 m h n β a w r
    exact co_cond (ht this.1) (he this.2)
  | block id x hx => exact co_block (hx hN)
  | loop x hx => exact co_loop (hx hN)
  | rangeFunc f ps x y hx hy => exact co_rangeFunc hrf hih hN
  | exit id => intro Q lv b0 m h n β a w r hr s hQ; cases Option.some.inj (show some (⟨.ex id, u0, m, h, n⟩ : R) = some r from hr); exact wpIn_exit (hQ β a w s (Mv.refl s.ok))
  | scope x hx => exact co_scope hrf (hx hN)
  | label l => intro Q lv b0 m h n β a w r hr s hQ; cases Option.some.inj (show some (⟨.nm, u0, m, h, n⟩ : R) = some r from hr); exact wpIn_label (hQ β a w s (Mv.refl s.ok))
  | goto l => intro Q lv b0 m h n β a w r hr; cases hr
  | ret => intro Q lv b0 m h n β a w r hr s hQ; cases Option.some.inj (show some (⟨.rt, u0, m, h, n⟩ : R) = some r from hr); exact wpIn_ret (hQ β a w s (Mv.refl s.ok))
  | refuse s => intro Q lv b0 m h n β a w r hr; cases hr
end
end Go.Ev
namespace Go.Ev
open Go.RowKit
theorem dOk_mono {N N' : Nat} (h : N ≤ N') {d : Option Tmp} (k : dOk N d = true) : dOk N' d = true := by
  cases d with
  | none => rfl
  | some d => exact Nat.ble_eq_true_of_le (Nat.le_trans (Nat.le_of_ble_eq_true (show Nat.ble (d + 1) N = true from k)) h)
theorem okC_mono {N N' : Nat} (h : N ≤ N') (c : Code) (hN : okC N c = true) : okC N' c = true := by
  induction c with
  | skip => rfl
  | region id ops dr =>
    have hN : (ops.toList.all fun o => dOk N o.dst) = true := hN
    show (ops.toList.all fun o => dOk N' o.dst) = true
    rw [List.all_eq_true] at hN ⊢
    exact fun o ho => dOk_mono h (hN o ho)
  | seq x y hx hy =>
    have hN : (okC N x && okC N y) = true := hN
    rw [Bool.and_eq_true] at hN
    show (okC N' x && okC N' y) = true
    rw [hx hN.1, hy hN.2]; rfl
  | cond x t e ht he =>
    have hN : (okC N t && okC N e) = true := hN
    rw [Bool.and_eq_true] at hN
    show (okC N' t && okC N' e) = true
    rw [ht hN.1, he hN.2]; rfl
  | block id x hx => exact hx hN
  | loop x hx => exact hx hN
  | rangeFunc f ps x y hx hy =>
    have hN : ((ps.toList.all fun p => dOk N (some p)) && (okC N x && okC N y)) = true := hN
    rw [Bool.and_eq_true, Bool.and_eq_true, List.all_eq_true] at hN
    show ((ps.toList.all fun p => dOk N' (some p)) && (okC N' x && okC N' y)) = true
    rw [hx hN.2.1, hy hN.2.2, List.all_eq_true.2 fun p hp => dOk_mono h (hN.1 p hp)]; rfl
  | exit id => rfl
  | scope x hx => exact hx hN
  | label l => rfl
  | goto l => rfl
  | ret => rfl
  | refuse s => rfl
theorem argT_get : ∀ (l : List A) (k : Nat) (m : Tr A) (t : Nat) (b : A), (argT l k m).get (po t) = some b → (k ≤ t ∧ l[t - k]? = some b) ∨ ((t < k ∨ k + l.length ≤ t) ∧ m.get (po t) = some b)
  | [], k, m, t, b, h => .inr ⟨by simp; omega, h⟩
  | a :: l, k, m, t, b, h => by
    rcases argT_get l (k + 1) (m.put (some a) (po k)) t b h with ⟨h1, h2⟩ | ⟨h1, h2⟩
    · exact .inl ⟨by omega, by rw [show t - k = (t - (k + 1)) + 1 by omega]; exact h2⟩
    · rcases Tr.get_put _ h2 with ⟨e, e2⟩ | ⟨e, e2⟩
      · have := po_inj e; subst this
        cases Option.some.inj e2
        exact .inl ⟨Nat.le_refl _, by simp⟩
      · refine .inr ⟨?_, e2⟩
        have : t ≠ k := fun h => e (by rw [h])
        simp only [List.length_cons]; omega
theorem argT_ok {X : Nat → Bool} {β : Be} {l : List A} {vs : List Value} (h : Vs β l = some vs) (N : Nat) : Sl X β (argT l 0 .lf) (vs.toArray ++ Array.replicate (N - vs.toArray.size) undef) := fun t b _ hb => by
  rcases argT_get l 0 .lf t b hb with ⟨_, h2⟩ | ⟨_, h2⟩
  · obtain ⟨v, h3, h4⟩ := Vs_get h h2
    rw [Nat.sub_zero] at h3
    have hlt := (List.getElem?_eq_some_iff.1 h3).1
    refine ⟨v, h4, ?_⟩
    rw [Array.getElem?_append_left (by simpa using hlt)]
    simpa using h3
  · rw [Tr.get_lf] at h2; cases h2

theorem Ok.hidput {β : Be} {h : Tr B} {n : Po} {w : World} (k : Ok β h n w) {D : Nat} (hD : ∀ q x p, h.get q = some x → β q = some p → p.blk ≠ D) (o : Obj) : Ok β h n (w.putObj D o) := by
  refine ⟨fun q b hb => ?_, k.inj, k.top⟩
  obtain ⟨p, o', g1, g2, g3⟩ := k.ob q b hb
  refine ⟨p, o', g1, ?_, g3⟩
  show (w.heap.setIfInBounds _ _)[p.blk]? = _
  rw [Array.getElem?_setIfInBounds_ne (Ne.symm (hD q b p hb g1))]; exact g2

theorem leaves_ok {P : Program} {fn : Func} {tmps : Array Value} {R : Ending → World → Prop} {b0 : Nat} {β : Be} {h : Tr B} {n : Po} : ∀ {ds : List Deferred} {w : World}, Ok β h n w → DfOk b0 β h w ds → b0 ≤ w.heap.size →
    (∀ wf, Ok β h n wf → Near w wf → wf.heap.size = w.heap.size → (∀ b, b < b0 → wf.heap[b]? = w.heap[b]?) → (∀ b, (∃ q x p, h.get q = some x ∧ β q = some p ∧ p.blk = b) → wf.heap[b]? = w.heap[b]?) → ∃ v, (results fn tmps).run P wf = .ok v wf ∧ R (.returned v) wf) → LeavesInM Fence.wide 0 P fn tmps R ds .returning w
  | [], w, k, _, _, hf => hf w k (Near.refl w) rfl (fun _ _ => rfl) (fun _ _ => rfl)
  | d :: ds, w, k, ⟨⟨D, h1, h2, h3, h4, h5⟩, kk⟩, hb, hf => by
    subst h1
    refine ⟨fun e => (by cases e), .inl ⟨D, _, rfl, run_takeDeferred h3, ?_⟩⟩
    have hne : ∀ {l : List Deferred}, (∀ d' ∈ l, d' ≠ { target := .collected D, args := #[] }) → DfOk b0 β h w l → DfOk b0 β h (w.putObj D (.deferred none)) l := by
      intro l
      induction l with
      | nil => exact fun _ _ => trivial
      | cons d' l ih =>
        rintro hd ⟨⟨D', e1, e2, e3, e4, e5⟩, e6⟩
        refine ⟨⟨D', e1, e2, ?_, e4, e5⟩, ih (fun x hx => hd x (by simp [hx])) e6⟩
        have : D ≠ D' := by rintro rfl; exact hd d' (by simp) e1
        show (w.heap.setIfInBounds _ _)[D']? = _
        rw [Array.getElem?_setIfInBounds_ne this]; exact e3
    refine leaves_ok (k.hidput h4 _) (hne h5 kk) (by simpa [World.putObj] using hb) fun wf a1 a2 a3 a4 a5 => hf wf a1 ⟨a2.os, a2.tape, a2.out, a2.drawn⟩ (by rw [a3]; simp [World.putObj]) (fun b hb' => ?_) fun b hbb => ?_
    · rw [a4 b hb']
      show (w.heap.setIfInBounds _ _)[b]? = _
      rw [Array.getElem?_setIfInBounds_ne (by omega)]
    · rw [a5 b hbb]
      obtain ⟨q, x, p, g1, g2, rfl⟩ := hbb
      show (w.heap.setIfInBounds _ _)[p.blk]? = _
      rw [Array.getElem?_setIfInBounds_ne (Ne.symm (h4 q x p g1 g2))]
end Go.Ev
namespace Go.Ev
open Go.RowKit
theorem orT_mono {loc m t : Nat} {x : Operand} (h : bit m t = true) : bit (orT loc x m) t = true := by
  unfold orT
  split
  · rw [cn_eq]; split
    · exact h
    · rw [bit_or, h]; rfl
  · exact h
theorem orO_mono {loc m t : Nat} {x : Option Nat} (h : bit m t = true) : bit (orO loc x m) t = true := by
  unfold orO
  split
  · exact orT_mono h
  · exact h
theorem orL_mono {loc m t : Nat} : ∀ {l : List Operand}, bit m t = true → bit (orL loc l m) t = true
  | [], h => h
  | x :: l, h => orT_mono (orL_mono (l := l) h)
theorem orN_mono {m t : Nat} : ∀ {l : List Nat}, bit m t = true → bit (orN l m) t = true
  | [], h => h
  | x :: l, h => by
    show bit (Nat.lor (orN l m) (Nat.shiftLeft 1 x)) t = true
    rw [bit_or, orN_mono (l := l) h]; rfl
theorem orN_mem {m t : Nat} : ∀ {l : List Nat}, t ∈ l → bit (orN l m) t = true
  | x :: l, h => by
    show bit (Nat.lor (orN l m) (Nat.shiftLeft 1 x)) t = true
    rw [bit_or]
    rcases List.mem_cons.1 h with rfl | h
    · rw [bit_one]; simp
    · rw [orN_mem h]; rfl
theorem outs_mono {ops : List Oper} {t : Nat} : ∀ {l : List Oper} {loc m : Nat}, bit m t = true → bit (outs l ops loc m) t = true
  | [], _, _, h => h
  | o :: l, loc, m, h => by
    refine outs_mono (l := l) (m := match gdD ops o with | some g => orO loc g.1 (orL loc o.op.operands.toList m) | none => orL loc o.op.operands.toList m) ?_
    split
    · exact orO_mono (orL_mono h)
    · exact orL_mono h
theorem need_mono {t : Nat} (c : Code) : ∀ {m : Nat}, bit m t = true → bit (need c m) t = true := by
  induction c with
  | skip => exact fun h => h
  | region id ops dr => exact fun h => outs_mono (l := ops.toList) h
  | seq x y hx hy => exact fun h => hy (hx h)
  | cond x a b ha hb => exact fun h => orT_mono (hb (ha h))
  | block id x hx => exact fun h => hx h
  | loop x hx => exact fun h => hx h
  | rangeFunc f ps x y hx hy => exact fun h => orT_mono (orN_mono (hy (hx h)))
  | exit id => exact fun h => h
  | scope x hx => exact fun h => hx h
  | label l => exact fun h => h
  | goto l => exact fun h => h
  | ret => exact fun h => h
  | refuse s => exact fun h => h
end Go.Ev
namespace Go.Ev
open Go.RowKit

def resF (tmps : Array Value) : ResultVar → Sem Value
  | .tmp t => pure (tmps.getD t undef)
  | .cell a t => do loadVar t (← asAddr (tmps.getD a undef))
section
variable {P : Program} {X : Nat → Bool} {β : Be} {h : Tr B} {w : World} {m : Tr A} {tmps : Array Value}
theorem resL_ok (hm : Ob β h w) (hs : Sl X β m tmps) : ∀ {rs : List ResultVar} {vs : List A}, (∀ t ∈ rsL rs, X t = true) → resV P rs m h = some vs →
    ∃ us, Vs β vs = some us ∧ (rs.mapM (m := Sem) (resF tmps)).run P w = .ok us w
  | [], vs, _, hr => by cases Option.some.inj hr; exact ⟨[], rfl, rfl⟩
  | r :: rs, vs, hX, hr => by
    obtain ⟨a, h1, h2⟩ := bd_some (show bd (match r with
      | .tmp t => m.get (po t)
      | .cell t T => bd (m.get (po t)) fun a => bd a.P fun q => Bx.casesOn (loadV P T) fun f => f h q.1 q.2) (fun v => bd (resV P rs m h) fun l => some (v :: l)) = some vs from hr)
    obtain ⟨l, h3, h4⟩ := bd_some h2
    cases Option.some.inj h4
    obtain ⟨us, g1, g2⟩ := resL_ok hm hs (rs := rs) (fun t ht => hX t (by unfold rsL at ht ⊢; rw [List.map_cons]; exact List.mem_cons_of_mem _ ht)) h3
    have one : ∃ v, V β a = some v ∧ (resF tmps r).run P w = .ok v w := by
      cases r with
      | tmp t =>
        obtain ⟨v, k1, k2⟩ := hs t a (hX t (by unfold rsL; simp)) h1
        refine ⟨v, k1, ?_⟩
        simp [resF, Array.getD_eq_getD_getElem?, k2]
      | cell t T =>
        obtain ⟨b, k0, h5⟩ := bd_some h1
        obtain ⟨q, h6, h7⟩ := bd_some h5
        obtain ⟨v, k1, k2⟩ := hs t b (hX t (by unfold rsL; simp)) k0
        rw [A.P_eq h6] at k1
        obtain ⟨p, hp, rfl⟩ := V_p k1
        replace h7 : (loadV P T).f h q.1 q.2 = some a := h7
        obtain ⟨u, k3, k4⟩ := loadV_ok (P := P) hm h7 hp
        refine ⟨u, k3, ?_⟩
        simp [resF, Array.getD_eq_getD_getElem?, k2, asAddr, k4]
    obtain ⟨v, k1, k2⟩ := one
    refine ⟨v :: us, Vs_mk k1 g1, ?_⟩
    rw [List.mapM_cons]
    simp only [Sem.run_bind]
    rw [k2]
    simp only [Result.andThen_ok]
    rw [g2]
    rfl
theorem one_V {vs : List A} {us : List Value} (h : Vs β vs = some us) : V β (one vs) = some (if h : us.toArray.size = 1 then us.toArray[0] else .tuple us.toArray) := by
  match vs, us, h with
  | [], us, h => cases Option.some.inj h; rfl
  | [a], us, h =>
    obtain ⟨v, r, h1, h2, rfl⟩ := Vs_cons h
    have := Vs_nil_inv h2; subst this
    show V β a = _
    rw [h1]; simp
  | a :: b :: l, us, h =>
    obtain ⟨v, r, h1, h2, rfl⟩ := Vs_cons h
    obtain ⟨v', r', h1', h2', rfl⟩ := Vs_cons h2
    show V β (.t (a :: b :: l)) = _
    unfold V
    rw [h]; simp
theorem res_ok (hm : Ob β h w) (hs : Sl X β m tmps) {fn : Func} {vs : List A} (hX : ∀ t ∈ rsL fn.results.toList, X t = true) (hr : resV P fn.results.toList m h = some vs) :
    ∃ v, V β (one vs) = some v ∧ (results fn tmps).run P w = .ok v w := by
  obtain ⟨us, g1, g2⟩ := resL_ok (P := P) hm hs hX hr
  refine ⟨_, one_V g1, ?_⟩
  have e : results fn tmps = (do
      let vs ← fn.results.mapM (resF tmps)
      pure (if h : vs.size = 1 then vs[0] else .tuple vs)) := rfl
  have e2 : (fn.results.mapM (resF tmps)).run P w = .ok us.toArray w := by
    rw [Array.mapM_eq_mapM_toList]
    show (fn.results.toList.mapM (resF tmps) >>= fun l => pure l.toArray).run P w = _
    rw [Sem.run_bind, g2]; rfl
  rw [e, Sem.run_bind, e2]; rfl
end
end Go.Ev
namespace Go.Ev
open Go.RowKit

theorem keep_get {lv : Nat} {h1 : Tr B} : ∀ {f : Nat} {l : List A} {h : Tr B} {q : Po} {b : B}, (keep lv h1 f l h).get q = some b → h.get q = some b ∨ (h.get q = none ∧ ∃ b1, h1.get q = some b1 ∧ b = ⟨b1.o, lv⟩ ∧ lv + 1 ≤ b1.lv)
  | 0, _, _, _, _, h => .inl h
  | f + 1, [], _, _, _, h => .inl h
  | f + 1, a :: r, h, q, b, hg => by
    have nm : ∀ n : Po, (Option.casesOn (motive := fun _ => Tr B) (h.get n) (Option.casesOn (motive := fun _ => Tr B) (h1.get n) (keep lv h1 f r h) fun b => cn (Nat.ble (Nat.succ lv) b.lv) (keep lv h1 f (sub b.o ++ r) (h.put (some ⟨b.o, lv⟩) n)) (keep lv h1 f r h)) fun _ => keep lv h1 f r h).get q = some b → h.get q = some b ∨ (h.get q = none ∧ ∃ b1, h1.get q = some b1 ∧ b = ⟨b1.o, lv⟩ ∧ lv + 1 ≤ b1.lv) := fun n hn => by
      cases e : h.get n with
      | some x => rw [e] at hn; exact keep_get hn
      | none =>
        rw [e] at hn
        cases e1 : h1.get n with
        | none => rw [e1] at hn; exact keep_get hn
        | some b1 =>
          rw [e1] at hn
          replace hn : (cn (Nat.ble (Nat.succ lv) b1.lv) (keep lv h1 f (sub b1.o ++ r) (h.put (some ⟨b1.o, lv⟩) n)) (keep lv h1 f r h)).get q = some b := hn
          rw [cn_eq] at hn
          split at hn
          case isFalse => exact keep_get hn
          rename_i hlv
          rcases keep_get hn with h2 | ⟨h2, h3⟩
          · rcases Tr.get_put _ h2 with ⟨rfl, e2⟩ | ⟨_, e2⟩
            · exact .inr ⟨e, b1, e1, (Option.some.inj e2).symm, Nat.le_of_ble_eq_true hlv⟩
            · exact .inl e2
          · refine .inr ⟨?_, h3⟩
            by_cases eq : q = n
            · subst eq; exact e
            · rwa [Tr.get_put_ne _ _ eq] at h2
    cases a with
    | p n o => exact nm n hg
    | l n o a b => exact nm n hg
    | o n o a b => exact nm n hg
    | m n => exact nm n hg
    | _ => exact keep_get (f := f) hg
end Go.Ev
namespace Go.Ev
open Go.RowKit
theorem Mv.leave {lv : Nat} {β β' : Be} {h h' : Tr B} {n n' : Po} {w w' wf : World} (M : Mv lv β h n w β' h' n' w') (k : Ok β' h' n' wf) (hn : Near w' wf) (hs : wf.heap.size = w'.heap.size) (hf : ∀ b, b < w.heap.size → wf.heap[b]? = w'.heap[b]?) : Mv lv β h n w β' h' n' wf :=
  ⟨M.le, M.old, k, hn.os.trans M.os, hn.tape.trans M.tape, hn.out.trans M.out, Nat.le_trans M.drawn hn.drawn, by rw [hs]; exact M.size, fun b hb hh => (hf b hb).trans (M.fr b hb hh), M.src, M.lvb⟩

theorem body_ok {P : Program} {ih : Ih} (hih : IhS P ih) {f : FuncId} {fn : Func} {c : Code} (hf : P.funcs[f]? = some fn) (hb : fn.body = some c) (hN : okC fn.ntmps c = true) {lv : Nat} {args : List A} {h : Tr B} {n : Po} {β : Be} {w : World} {vs : List Value} {r : R} {rs : List A}
    (h1 : (codD P true (bit (need c (orN (rsL fn.results.toList) 0))) c).f ih lv (argT args 0 .lf) h n = some r) (h2 : resV P fn.results.toList r.m r.h = some rs) (h3 : ∀ id, r.e ≠ .ex id) (hvs : Vs β args = some vs) (hk : Ok β h n w) (hg : Gl β n) (hL : Lb lv h) {R : Ending → World → Prop}
    (hR : ∀ v β' wf, V β' (one rs) = some v → Mv lv β h n w β' r.h r.n wf → R (.returned v) wf) : Calls P f vs.toArray w R := by
  refine (callsIn_wide (n := 0)).1 (callsIn_of_wp_marks hf hb trivial ?_)
  refine cod_ok (opF_wide P) (fun _ => rfl) hih c (N := (vs.toArray ++ Array.replicate (fn.ntmps - vs.toArray.size) undef).size) (okC_mono (by simp; omega) c hN) h1 (b0 := w.heap.size) ⟨argT_ok hvs fn.ntmps, rfl, hk, hg, hL, trivial, Nat.le_refl _⟩ fun β' a' w' s M => ?_
  have fin : LeavesInM Fence.wide 0 P fn a'.tmps R a'.defers .returning w' := leaves_ok s.ok s.df s.b0 fun wf k1 k2 k3 k4 k5 => by
    obtain ⟨v, g1, g2⟩ := res_ok (P := P) k1.ob s.sl (fn := fn) (fun t ht => need_mono c (orN_mem ht)) h2
    exact ⟨v, g2, hR v β' wf g1 (M.leave k1 k2 k3 k4)⟩
  cases he : r.e with
  | nm => exact fin
  | ex id => exact absurd he (h3 id)
  | rt => exact fin
end Go.Ev
namespace Go.Ev
open Go.RowKit

theorem Mv.keep {lv : Nat} {β β' : Be} {h h1 : Tr B} {n n' : Po} {w w' : World} (M : Mv (lv + 1) β h n w β' h1 n' w') (k : Ok β h n w) (hL : Lb lv h) (f : Nat) (l : List A) : Mv lv β h n w β' (Ev.keep lv h1 f l h) n' w' := by
  have hno : ∀ {q x p}, h1.get q = some x → lv + 1 ≤ x.lv → β' q = some p → w.heap.size ≤ p.blk := fun {q x p} h2 h3 h4 => by
    rcases Nat.lt_or_ge p.blk w.heap.size with g | g
    · obtain ⟨q0, c0, p0, g1, _, _, g4⟩ := M.src q x p h2 h4 g
      have := hL q0 c0 g1; have := g4 h3; omega
    · exact g
  have hfr : ∀ b, b < w.heap.size → w'.heap[b]? = w.heap[b]? := fun b hb => M.fr b hb fun q c p hq hc _ => by have := hL q c hq; omega
  have hnew : ∀ {q b}, (Ev.keep lv h1 f l h).get q = some b → (h.get q = some b) ∨ (∃ b1, h1.get q = some b1 ∧ b = ⟨b1.o, lv⟩ ∧ ∀ p, β' q = some p → w.heap.size ≤ p.blk) := fun {q b} hq => by
    rcases keep_get hq with g | ⟨_, b1, g2, g3, g4⟩
    · exact .inl g
    · exact .inr ⟨b1, g2, g3, fun p hp => hno g2 g4 hp⟩
  have hold : ∀ {q b}, h.get q = some b → β' q = β q := fun {q b} hq => M.old q (k.nm hq)
  refine ⟨M.le, M.old, ⟨fun q b hq => ?_, fun q q' b b' p p' hq hq' hp hp' e => ?_, M.ok.top⟩, M.os, M.tape, M.out, M.drawn, M.size, fun b hb _ => hfr b hb, fun q c p hq hp hb => ?_, fun K hK hh q c hq => ?_⟩
  · rcases hnew hq with g | ⟨b1, g1, rfl, _⟩
    · obtain ⟨p, o, g1, g2, g3⟩ := k.ob q b g
      exact ⟨p, o, by rw [hold g]; exact g1, by rw [hfr _ (Array.getElem?_eq_some_iff.1 g2).1]; exact g2, g3.le (M.be k)⟩
    · exact M.ok.ob q b1 g1
  · rcases hnew hq with g | ⟨b1, g1, _, g3⟩ <;> rcases hnew hq' with g' | ⟨b1', g1', _, g3'⟩
    · exact k.inj q q' b b' p p' g g' (by rw [← hold g]; exact hp) (by rw [← hold g']; exact hp') e
    · have := k.lt g (by rw [← hold g]; exact hp); have := g3' p' hp'; omega
    · have := k.lt g' (by rw [← hold g']; exact hp'); have := g3 p hp; omega
    · exact M.ok.inj q q' b1 b1' p p' g1 g1' hp hp' e
  · rcases hnew hq with g | ⟨b1, g1, _, g3⟩
    · exact ⟨q, c, p, g, by rw [← hold g]; exact hp, rfl, id⟩
    · have := g3 p hp; omega
  · rcases hnew hq with g | ⟨b1, g1, rfl, _⟩
    · exact hh q c g
    · exact hK

def OraS (P : Program) (ora : Ora) : Prop := ∀ f o, ora f = some o → ∀ lv args h n r, o.f args h n lv = some r → CaS P lv f args h n r
noncomputable def StB (P : Program) : Bool := P.funcs.toList.all fun fn => match fn.body with | none => true | some c => okC fn.ntmps c && !(fn.name == "runtime.NumGoroutine")
theorem StB_ok {P : Program} (h : StB P = true) {f : FuncId} {fn : Func} {c : Code} (hf : P.funcs[f]? = some fn) (hb : fn.body = some c) : okC fn.ntmps c = true ∧ (fn.name == "runtime.NumGoroutine") = false := by
  unfold StB at h
  rw [List.all_eq_true] at h
  have := h fn (List.mem_of_getElem? (by simpa using hf : P.funcs.toList[f]? = some fn))
  rw [hb] at this
  simpa using this
theorem exR {r : R} {k : Option R} {r' : R} (h : (Ex.casesOn (motive := fun _ => Option R) r.e k (fun _ => none) k) = some r') : (∀ id, r.e ≠ .ex id) ∧ k = some r' := by
  cases he : r.e with
  | nm => rw [he] at h; exact ⟨fun id e => (by cases e), h⟩
  | ex id => rw [he] at h; cases h
  | rt => rw [he] at h; exact ⟨fun id e => (by cases e), h⟩
theorem fb_ok {P : Program} {imp : FuncId → Bool} {ih : Ih} (hS : StB P = true) (hih : IhS P ih) {f : FuncId} {lv : Nat} {args : List A} {h : Tr B} {n : Po} {r : R} (hr : (fbD P imp f).f ih lv args h n = some r) : CaS P lv f args h n r := by
  unfold fbD at hr
  split at hr
  · cases hr
  · rename_i fn hf
    split at hr
    · cases hr
    · rename_i c hb
      obtain ⟨hN, hname⟩ := StB_ok hS hf hb
      have hent := enters_of hf hname (by rw [hb]; rfl)
      intro β w vs hvs hk hg hL
      refine .inr ⟨hent _ _, ?_⟩
      rw [cond_eq_ite] at hr
      split at hr
      · have hr1 : bd ((codD P true (bit (need c (orN (rsL fn.results.toList) 0))) c).f ih lv (argT args 0 .lf) h n) (fun r => Ex.casesOn (motive := fun _ => Option R) r.e (bd (resV P fn.results.toList r.m r.h) fun vs => rz (one vs) r.h r.n) (fun _ => none) (bd (resV P fn.results.toList r.m r.h) fun vs => rz (one vs) r.h r.n)) = some r := by
          rw [← hr]
        obtain ⟨r1, h1, h2⟩ := bd_some hr1
        obtain ⟨h3, h4⟩ := exR h2
        obtain ⟨rs, h5, h6⟩ := bd_some h4
        obtain ⟨e1, e2, e3⟩ := rz_inj h6
        refine body_ok hih hf hb hN h1 h5 h3 hvs hk hg hL fun v β' wf g1 M => ⟨v, β', rfl, by rw [e1]; exact g1, by rw [e2, e3]; exact M⟩
      · have hr1 : bd ((codD P true (bit (need c (orN (rsL fn.results.toList) 0))) c).f ih (Nat.succ lv) (argT args 0 .lf) h n) (fun r => Ex.casesOn (motive := fun _ => Option R) r.e (bd (resV P fn.results.toList r.m r.h) fun vs => rz (one vs) (keep lv r.h 100000 vs h) r.n) (fun _ => none) (bd (resV P fn.results.toList r.m r.h) fun vs => rz (one vs) (keep lv r.h 100000 vs h) r.n)) = some r := by
          rw [← hr]
        obtain ⟨r1, h1, h2⟩ := bd_some hr1
        obtain ⟨h3, h4⟩ := exR h2
        obtain ⟨rs, h5, h6⟩ := bd_some h4
        obtain ⟨e1, e2, e3⟩ := rz_inj h6
        refine body_ok hih hf hb hN h1 h5 h3 hvs hk hg (fun q x hq => Nat.le_succ_of_le (hL q x hq)) fun v β' wf g1 M => ⟨v, β', rfl, by rw [e1]; exact g1, ?_⟩
        rw [e2, e3]; exact M.keep hk hL _ _
theorem fn_ok {P : Program} {imp : FuncId → Bool} {ora : Ora} {ih : Ih} (hS : StB P = true) (hO : OraS P ora) (hih : IhS P ih) {f : FuncId} {lv : Nat} {args : List A} {h : Tr B} {n : Po} {r : R} (hr : (fnD P imp ora f).f ih lv args h n = some r) : CaS P lv f args h n r := by
  unfold fnD at hr
  split at hr
  · rename_i o ho
    cases o with
    | mk o =>
      replace hr : Option.casesOn (motive := fun _ => Option R) (o args h n lv) ((fbD P imp f).f ih lv args h n) some = some r := hr
      cases ho2 : o args h n lv with
      | none => rw [ho2] at hr; exact fb_ok hS hih hr
      | some x => rw [ho2] at hr; rw [← Option.some.inj hr]; exact hO f _ ho lv args h n x ho2
  · exact fb_ok hS hih hr
end Go.Ev
namespace Go.Ev
open Go.RowKit
theorem parT_ok {X : Nat → Bool} {β : Be} : ∀ {ps : List Tmp} {l : List A} {m m' : Tr A} {vs : List Value} {ts : Array Value}, parT ps l m = some m' → Vs β l = some vs → Sl X β m ts → (∀ p ∈ ps, p < ts.size) →
    ps.length = vs.length ∧ Sl X β m' ((ps.zip vs).foldl (fun ts (x : Tmp × Value) => ts.setIfInBounds x.1 x.2) ts) ∧ ((ps.zip vs).foldl (fun ts (x : Tmp × Value) => ts.setIfInBounds x.1 x.2) ts).size = ts.size
  | [], l, m, m', vs, ts, h, hv, hs, hp => by
    cases l with
    | nil => cases Option.some.inj (show some m = some m' from h); cases hv; exact ⟨rfl, hs, rfl⟩
    | cons a l => cases h
  | p :: ps, l, m, m', vs, ts, h, hv, hs, hp => by
    cases l with
    | nil => cases h
    | cons a l =>
      have h : parT ps l (m.put (some a) (po p)) = some m' := h
      obtain ⟨v, r, h1, h2, rfl⟩ := Vs_cons hv
      have hs' : Sl X β (m.put (some a) (po p)) (ts.setIfInBounds p v) := fun t b hX hb => by
        rcases Tr.get_put _ hb with ⟨e, e2⟩ | ⟨e, e2⟩
        · have := po_inj e; subst this; cases Option.some.inj e2; exact ⟨v, h1, by simp [hp t (by simp)]⟩
        · obtain ⟨u, g1, g2⟩ := hs t b hX e2
          exact ⟨u, g1, by rw [Array.getElem?_setIfInBounds_ne (fun h => e (by rw [h]))]; exact g2⟩
      obtain ⟨k1, k2, k3⟩ := parT_ok h h2 hs' (fun q hq => by simpa using hp q (by simp [hq]))
      exact ⟨by simp [k1], k2, by rw [List.zip_cons_cons, List.foldl_cons]; simpa using k3⟩
section
variable {lv : Nat} {β1 β2 : Be} {h1 h2 : Tr B} {n1 n2 : Po} {w1 w3 : World} {l : Po} {b2 : B} {p : Pl} {obj busy : Obj}
theorem Ok.take (k1 : Ok β1 h1 n1 w1) (hl : h1.get l = some b2) (hp : β1 l = some p) (o : Obj) : Ok β1 (h1.put none l) n1 (w1.putObj p.blk o) := by
  have hn : ∀ {q x}, (h1.put none l).get q = some x → q ≠ l ∧ h1.get q = some x := fun {q x} hq => by
    rcases Tr.get_put _ hq with ⟨_, e⟩ | e
    · cases e
    · exact e
  refine ⟨fun q b hq => ?_, fun q q' b b' p p' hq hq' => k1.inj q q' b b' p p' (hn hq).2 (hn hq').2, k1.top⟩
  obtain ⟨hne, hq⟩ := hn hq
  obtain ⟨p', o', g1, g2, g3⟩ := k1.ob q b hq
  refine ⟨p', o', g1, ?_, g3⟩
  rw [World.putObj_heap_other fun e => hne (k1.inj q l b b2 p' p hq hl g1 hp e)]; exact g2
theorem Mv.round (k1 : Ok β1 h1 n1 w1) (hl : h1.get l = some b2) (hp : β1 l = some p) (ho : w1.heap[p.blk]? = some obj) (M : Mv lv β1 (h1.put none l) n1 (w1.putObj p.blk busy) β2 h2 n2 w3) : Mv lv β1 h1 n1 w1 β2 (h2.put (some b2) l) n2 (w3.putObj p.blk obj) := by
  have hlt : p.blk < w1.heap.size := (Array.getElem?_eq_some_iff.1 ho).1
  have hn : ∀ {q x}, (h1.put none l).get q = some x → q ≠ l ∧ h1.get q = some x := fun {q x} hq => by
    rcases Tr.get_put _ hq with ⟨_, e⟩ | e
    · cases e
    · exact e
  have hs : (w1.putObj p.blk busy).heap.size = w1.heap.size := World.putObj_size
  have hs3 : (w3.putObj p.blk obj).heap.size = w3.heap.size := World.putObj_size
  have hlt3 : p.blk < w3.heap.size := Nat.lt_of_lt_of_le hlt (by have := M.size; omega)
  have hp2 : β2 l = some p := by rw [M.old l (k1.nm hl)]; exact hp
  have hne : ∀ {q x p'}, h2.get q = some x → β2 q = some p' → p'.blk ≠ p.blk := fun {q x p'} hq hq' e => by
    obtain ⟨q0, c0, p0, g1, g2, g3, _⟩ := M.src q x p' hq hq' (by omega)
    obtain ⟨g4, g5⟩ := hn g1
    exact g4 (k1.inj q0 l c0 b2 p0 p g5 hl g2 hp (by omega))
  have hput : ∀ {q x}, (h2.put (some b2) l).get q = some x → (q = l ∧ x = b2) ∨ (q ≠ l ∧ h2.get q = some x) := fun {q x} hq => by
    rcases Tr.get_put _ hq with ⟨e1, e2⟩ | e
    · exact .inl ⟨e1, (Option.some.inj e2).symm⟩
    · exact .inr e
  refine ⟨M.le, M.old, ⟨fun q b hq => ?_, fun q q' b b' p1 p1' hq hq' hq1 hq1' e => ?_, M.ok.top⟩, M.os, M.tape, M.out, M.drawn, by have := M.size; omega, fun b hb hh => ?_, fun q c p1 hq hq1 hb => ?_, fun K hK hh q c hq => ?_⟩
  · rcases hput hq with ⟨rfl, rfl⟩ | ⟨g1, g2⟩
    · obtain ⟨p', o', e1, e2, e3⟩ := k1.ob q b hl
      rw [hp] at e1; cases e1
      rw [ho] at e2; cases e2
      exact ⟨p, obj, hp2, World.putObj_heap_same hlt3, e3.le (M.be (k1.take hl hp busy))⟩
    · obtain ⟨p', o', e1, e2, e3⟩ := M.ok.ob q b g2
      exact ⟨p', o', e1, by rw [World.putObj_heap_other (hne g2 e1)]; exact e2, e3⟩
  · rcases hput hq with ⟨rfl, rfl⟩ | ⟨g1, g2⟩ <;> rcases hput hq' with ⟨rfl, rfl⟩ | ⟨g1', g2'⟩
    · rfl
    · rw [hp2] at hq1; cases hq1; exact absurd e.symm (hne g2' hq1')
    · rw [hp2] at hq1'; cases hq1'; exact absurd e (hne g2 hq1)
    · exact M.ok.inj q q' b b' p1 p1' g2 g2' hq1 hq1' e
  · by_cases e : b = p.blk
    · subst e; rw [World.putObj_heap_same hlt3, ho]
    · rw [World.putObj_heap_other e, M.fr b (by omega) fun q c p' hq hc => hh q c p' (hn hq).2 hc, World.putObj_heap_other e]
  · rcases hput hq with ⟨rfl, rfl⟩ | ⟨g1, g2⟩
    · rw [hp2] at hq1; cases hq1
      exact ⟨q, c, p, hl, hp, rfl, id⟩
    · obtain ⟨q0, c0, p0, e1, e2, e3, e4⟩ := M.src q c p1 g2 hq1 (by omega)
      exact ⟨q0, c0, p0, (hn e1).2, e2, e3, e4⟩
  · rcases hput hq with ⟨rfl, rfl⟩ | ⟨g1, g2⟩
    · exact hh q c hl
    · exact M.lvb K hK (fun q c hq => hh q c (hn hq).2) q c g2
end

theorem round_ok {P : Program} {ih : Ih} (hih : IhS P ih) {lv : Nat} {l : Po} {args : List A} {h : Tr B} {n : Po} {r : R} (hr : (bd (h.get l) fun b => match b.o with
    | .lp m X ps as body => bd (parT ps args m) fun m => Bx.casesOn (motive := fun _ => Option R) (codD P false X as) fun f => bd (f ih lv m h n) fun r => Ex.casesOn (motive := fun _ => Option R) r.e (bd (r.h.get l) fun b2 => (match b2.o with
      | .lp _ _ _ _ _ => Bx.casesOn (motive := fun _ => Option R) (codD P false X body) fun f => bd (f ih lv r.m (r.h.put none l) r.n) fun r2 => Ex.casesOn (motive := fun _ => Option R) r2.e (rz (.b true) (r2.h.put (some b2) l) r2.n) (fun _ => none) none
      | _ => none)) (fun _ => none) none
    | _ => none) = some r) : RdS P lv l args h n r := by
  intro β w vs p hv hk hg hL hp
  obtain ⟨b, h1, hr1⟩ := bd_some hr
  clear hr
  split at hr1
  case h_2 => cases hr1
  rename_i m X ps as body hbo
  obtain ⟨m1, h2, hr2⟩ := bd_some hr1
  clear hr1
  obtain ⟨r1, h3, hr3⟩ := bd_some (o := (codD P false X as).f ih lv m1 h n) hr2
  clear hr2
  cases he : r1.e with
  | ex id => rw [he] at hr3; cases hr3
  | rt => rw [he] at hr3; cases hr3
  | nm =>
    rw [he] at hr3
    obtain ⟨b2, h4, hr4⟩ := bd_some hr3
    clear hr3
    split at hr4
    case h_2 => cases hr4
    rename_i m' X' ps' as' bd' hb2
    obtain ⟨r2, h5, hr5⟩ := bd_some (o := (codD P false X body).f ih lv r1.m (r1.h.put none l) r1.n) hr4
    clear hr4
    cases he2 : r2.e with
    | ex id => rw [he2] at hr5; cases hr5
    | rt => rw [he2] at hr5; cases hr5
    | nm =>
      rw [he2] at hr5
      obtain ⟨e1, e2, e3⟩ := rz_inj hr5
      obtain ⟨p', o, g1, g2, g3⟩ := hk.ob l b h1
      rw [hp] at g1; cases g1
      rw [hbo] at g3
      obtain ⟨rr, rfl, s1, s2, s3, s4, s5, s6, s7⟩ := g3
      have s7 : ((rr.params.toList.all fun p => dOk rr.tmps.size (some p)) && (okC rr.tmps.size as && okC rr.tmps.size body)) = true := s7
      rw [Bool.and_eq_true, Bool.and_eq_true, List.all_eq_true] at s7
      obtain ⟨k1, k2, k3⟩ := parT_ok (ts := rr.tmps) h2 hv s6 (fun q hq => Nat.le_of_ble_eq_true (s7.1 q (by rw [s3]; exact hq)))
      have ets : (rr.params.zip vs.toArray).foldl (fun tmps (x : Tmp × Value) => tmps.setIfInBounds x.1 x.2) rr.tmps = (ps.zip vs).foldl (fun ts (x : Tmp × Value) => ts.setIfInBounds x.1 x.2) rr.tmps := by
        rw [s3]; simp
      refine ⟨_, _, _, _, run_yield g2 (by rw [s3]; simp [k1]), ?_⟩
      rw [s4, s5]
      refine roundIn_of_wpIn trivial ?_
      have hF := opF_round P p.blk
      refine cod_ok hF (fun e => (by cases e)) hih as (N := rr.tmps.size) s7.2.1 h3 (b0 := w.heap.size) ⟨?_, ?_, hk, hg, hL, trivial, Nat.le_refl _⟩ fun β1 a1 w1 s M => ?_
      · show Sl X β m1 ((rr.params.zip vs.toArray).foldl (fun tmps (x : Tmp × Value) => tmps.setIfInBounds x.1 x.2) rr.tmps)
        rw [ets]; exact k2
      · show ((rr.params.zip vs.toArray).foldl (fun tmps (x : Tmp × Value) => tmps.setIfInBounds x.1 x.2) rr.tmps).size = _
        rw [ets]; exact k3
      rw [he]
      obtain ⟨p1, o1, q1, q2, q3⟩ := s.ok.ob l b2 h4
      have hp1 : p1 = p := by rw [M.old l (hk.nm h1), hp] at q1; exact (Option.some.inj q1).symm
      subst hp1
      rw [hb2] at q3
      obtain ⟨rr1, rfl, t1, t2, _⟩ := q3
      refine ⟨_, run_beginRound q2 t1, ?_⟩
      have hlt := (Array.getElem?_eq_some_iff.1 q2).1
      have hkt := s.ok.take h4 q1 (.loop { rr1 with state := .busy })
      have hdf : ∀ {l' : List Deferred}, DfOk w.heap.size β1 r1.h w1 l' → DfOk w.heap.size β1 (r1.h.put none l) (w1.putObj p1.blk (.loop { rr1 with state := .busy })) l' := by
        intro l'
        induction l' with
        | nil => exact fun _ => trivial
        | cons d l' ih =>
          rintro ⟨⟨D, f1, f2, f3, f4, f5⟩, f6⟩
          refine ⟨⟨D, f1, f2, ?_, fun q x p hq => ?_, f5⟩, ih f6⟩
          · rw [World.putObj_heap_other fun e => f4 l b2 p1 h4 q1 e.symm]; exact f3
          · rcases Tr.get_put _ hq with ⟨_, e⟩ | ⟨_, e⟩
            · cases e
            · exact f4 q x p e
      refine cod_ok hF (fun e => (by cases e)) hih body (N := rr.tmps.size) s7.2.2 h5 (b0 := w.heap.size) ⟨s.sl, s.sz, hkt, s.gl, fun q x hq => ?_, hdf s.df, by rw [World.putObj_size]; exact s.b0⟩ fun β2 a2 w3 s2 M2 => ?_
      · rcases Tr.get_put _ hq with ⟨_, e⟩ | ⟨_, e⟩
        · cases e
        · exact s.lb q x e
      rw [he2]
      have hfr : w3.heap[p1.blk]? = some (.loop { rr1 with state := .busy }) := by
        rw [M2.fr p1.blk (by rw [World.putObj_size]; exact hlt) fun q c p' hq _ hp' e => ?_]
        · exact World.putObj_heap_same hlt
        · rcases Tr.get_put _ hq with ⟨_, e'⟩ | ⟨e', e''⟩
          · cases e'
          · exact e' (s.ok.inj q l c b2 p' p1 e'' h4 hp' q1 e)
      have MM := M.trans (Mv.round s.ok h4 q1 q2 M2)
      have hrr : ({ ({ rr1 with state := .busy } : Loop) with state := if (none : Option Code).isNone then .ready else .done, pending := none } : Loop) = rr1 := by
        cases rr1; simp only at t1 t2; subst t1; subst t2; rfl
      refine ⟨_, _, run_endRound none hfr, .bool true, β2, rfl, by rw [e1]; rfl, ?_⟩
      rw [e2, e3, hrr]; exact MM
end Go.Ev
namespace Go.Ev

theorem go_ok {P : Program} {imp : FuncId → Bool} {ora : Ora} (hS : StB P = true) (hO : OraS P ora) : ∀ k, IhS P (go P imp ora k)
  | 0, _, _, h => by cases h
  | k + 1, .ca lv f args h n, r, hr => fn_ok (imp := imp) hS hO (go_ok hS hO k) hr
  | k + 1, .rd lv l args h n, r, hr => round_ok (go_ok hS hO k) hr
end Go.Ev
namespace Go.Ev
open Go.RowKit
abbrev Orb := Bx (List A → Tr B → Po → Nat → Option R)
noncomputable section
def idx : List Nat → Nat → Nat → Int
  | [], _, _ => .negSucc 0
  | a :: l, c, k => bif Nat.beq a c then .ofNat k else idx l c (k + 1)
def cnt : List Nat → Nat → Nat
  | [], _ => 0
  | a :: l, c => bif Nat.beq a c then cnt l c + 1 else cnt l c
def W64 : Nat := 18446744073709551616
def orMul : Orb := ⟨fun l h n _ => match l with
  | [.i .u64 (.ofNat x), .i .u64 (.ofNat y)] => gu (Nat.ble (Nat.succ x) W64) (gu (Nat.ble (Nat.succ y) W64) (rz (.t [.i .u64 (.ofNat (Nat.div (Nat.mul x y) W64)), .i .u64 (.ofNat (Nat.mod (Nat.mul x y) W64))]) h n))
  | _ => none⟩
def orIdx : Orb := ⟨fun l h n _ => match l with
  | [.s l, .i .u8 (.ofNat c)] => gu (Nat.ble c 255) (rz (.i .i64 (idx l c 0)) h n)
  | _ => none⟩
def orCnt : Orb := ⟨fun l h n _ => match l with
  | [.s l, .i .u8 (.ofNat c)] => gu (Nat.ble c 255) (rz (.i .i64 (.ofNat (cnt l c))) h n)
  | _ => none⟩
def orAdd : Orb := ⟨fun l h n _ => match l with
  | [.i .u64 (.ofNat x), .i .u64 (.ofNat y), .i .u64 (.ofNat c)] => gu (Nat.ble c 1) (rz (.t [.i .u64 (.ofNat (Nat.mod (x + y + c) W64)), .i .u64 (.ofNat (Nat.div (x + y + c) W64))]) h n)
  | _ => none⟩
def orSub : Orb := ⟨fun l h n _ => match l with
  | [.i .u64 (.ofNat x), .i .u64 (.ofNat y), .i .u64 (.ofNat c)] => gu (Nat.ble c 1) (rz (.t [.i .u64 (.ofNat (Nat.mod (x + W64 - y - c) W64)), .i .u64 (.ofNat (bif Nat.ble (y + c) x then 0 else 1))]) h n)
  | _ => none⟩
def orEsc : Orb := ⟨fun l h n _ => match l with | [x] => rz x h n | _ => none⟩
def orMnz (u : TypeId) : Orb := ⟨fun l h n lv => match l with
  | [.i .i64 (.ofNat k)] => gu (Nat.ble k lim) (nw (.c [] u true) (.o · 0 k 1) lv h n)
  | _ => none⟩
end
section
variable {P : Program} {f : FuncId} {fn : Func} {lv : Nat} {args : List A} {h : Tr B} {n : Po} {r : R}
theorem ora_ext {e : Array Value → Sem Value} (hf : P.funcs[f]? = some fn) (hname : (fn.name == "runtime.NumGoroutine") = false) (hb : fn.body.isNone = true) (hn : Extern.findNext fn = none) (he : Extern.find fn = some e)
    (H : ∀ β w vs, Vs β args = some vs → Ok β h n w → ∃ v β' w', (e vs.toArray).run P w = .ok v w' ∧ V β' r.a = some v ∧ Mv lv β h n w β' r.h r.n w') : CaS P lv f args h n r := fun β w vs hv hk _ _ => by
  obtain ⟨v, β', w', h1, h2, h3⟩ := H β w vs hv hk
  refine .inl ⟨?_, v, β', w', by rw [run_callFunc_extern hf hname hb hn he, h1]; rfl, h2, h3⟩
  unfold hasB
  rw [hf]
  show fn.body.isSome = false
  cases hbb : fn.body with
  | none => rfl
  | some c => rw [hbb] at hb; cases hb

theorem ora_val {e : Array Value → Sem Value} (hf : P.funcs[f]? = some fn) (hname : (fn.name == "runtime.NumGoroutine") = false) (hb : fn.body.isNone = true) (hn : Extern.findNext fn = none) (he : Extern.find fn = some e)
    {a : A} (hr : rz a h n = some r) (H : ∀ β w vs, Vs β args = some vs → ∃ v, (e vs.toArray).run P w = .ok v w ∧ V β a = some v) : CaS P lv f args h n r :=
  ora_ext hf hname hb hn he fun β w vs hv hk => by
    obtain ⟨e1, e2, e3⟩ := rz_inj hr
    obtain ⟨v, h1, h2⟩ := H β w vs hv
    exact ⟨v, β, w, h1, by rw [e1]; exact h2, by rw [e2, e3]; exact Mv.refl hk⟩
theorem u8_eq {a c : Nat} (ha : a ≤ 255) (hc : c ≤ 255) : (UInt8.ofNat a == UInt8.ofNat c) = Nat.beq a c := by
  by_cases e : a = c
  · subst e; rw [Nat.beq_refl]; simp
  · have h1 : Nat.beq a c = false := by
      cases h : Nat.beq a c with
      | false => rfl
      | true => exact absurd (Nat.eq_of_beq_eq_true h) e
    rw [h1, beq_eq_false_iff_ne]
    intro h2
    have := congrArg UInt8.toNat h2
    rw [UInt8.toNat_ofNat', UInt8.toNat_ofNat'] at this
    omega
theorem idx_eq {c : Nat} (hc : c ≤ 255) : ∀ {l : List Nat} (k : Nat), okS l = true → idx l c k = if Lib.indexByte (l.map UInt8.ofNat) (UInt8.ofNat c) == -1 then -1 else Lib.indexByte (l.map UInt8.ofNat) (UInt8.ofNat c) + k
  | [], k, _ => rfl
  | a :: l, k, hl => by
    unfold okS at hl
    rw [List.all_cons, Bool.and_eq_true] at hl
    have ha := Nat.le_of_ble_eq_true hl.1
    have ih := idx_eq hc (l := l) (k + 1) hl.2
    rw [List.map_cons]
    unfold idx Lib.indexByte
    rw [u8_eq ha hc]
    cases Nat.beq a c with
    | true => simp
    | false =>
      have hge := Lib.indexByte_ge (l.map UInt8.ofNat) (UInt8.ofNat c)
      simp only [cond_false, ih, Bool.false_eq_true, if_false]
      generalize Lib.indexByte (l.map UInt8.ofNat) (UInt8.ofNat c) = j at *
      by_cases hj : j = -1
      · subst hj; rfl
      · have e1 : (j == -1) = false := by rw [beq_eq_false_iff_ne]; exact hj
        have e2 : (j + 1 == -1) = false := by rw [beq_eq_false_iff_ne]; omega
        simp only [e1, e2, Bool.false_eq_true, if_false]
        omega
theorem cnt_eq {c : Nat} (hc : c ≤ 255) : ∀ {l : List Nat}, okS l = true → cnt l c = Lib.countByte (l.map UInt8.ofNat) (UInt8.ofNat c)
  | [], _ => rfl
  | a :: l, hl => by
    unfold okS at hl
    rw [List.all_cons, Bool.and_eq_true] at hl
    have ha := Nat.le_of_ble_eq_true hl.1
    have ih := cnt_eq hc (l := l) hl.2
    unfold Lib.countByte at ih ⊢
    rw [List.map_cons, List.count_cons, u8_eq ha hc]
    unfold cnt
    rw [ih]
    cases Nat.beq a c <;> rfl
theorem Vs1 {β : Be} {a : A} {vs : List Value} (h : Vs β [a] = some vs) : ∃ v, V β a = some v ∧ vs = [v] := by
  obtain ⟨v, r, h1, h2, rfl⟩ := Vs_cons h
  cases h2; exact ⟨v, h1, rfl⟩
theorem Vs2 {β : Be} {a b : A} {vs : List Value} (h : Vs β [a, b] = some vs) : ∃ v u, V β a = some v ∧ V β b = some u ∧ vs = [v, u] := by
  obtain ⟨v, r, h1, h2, rfl⟩ := Vs_cons h
  obtain ⟨u, g1, rfl⟩ := Vs1 h2; exact ⟨v, u, h1, g1, rfl⟩
theorem V_str {β : Be} {l : List Nat} {v : Value} (h : V β (.s l) = some v) : okS l = true ∧ v = .string (txt l) := by
  unfold V at h
  split at h
  · exact ⟨by assumption, (Option.some.inj h).symm⟩
  · cases h
theorem orIdx_ok (hf : P.funcs[f]? = some fn) (hname : (fn.name == "runtime.NumGoroutine") = false) (hb : fn.body.isNone = true) (hn : Extern.findNext fn = none) (he : Extern.find fn = some Extern.BytealgIndexByte.indexByte) (hr : orIdx.f args h n lv = some r) : CaS P lv f args h n r := by
  unfold orIdx at hr
  simp only at hr
  split at hr
  case h_2 => cases hr
  obtain ⟨h1, hr⟩ := gu_some hr
  refine ora_val hf hname hb hn he hr fun β w vs hv => ?_
  obtain ⟨v, u, g1, g2, rfl⟩ := Vs2 hv
  obtain ⟨g3, rfl⟩ := V_str g1
  cases Option.some.inj (show some (Value.int .u8 _) = some u from g2)
  refine ⟨_, Lib.run_indexByteString _ _ w, ?_⟩
  show some (Value.int .i64 _) = some (Value.int .i64 _)
  rw [idx_eq (Nat.le_of_ble_eq_true h1) 0 g3]
  congr 2
  show (if Lib.indexByte _ _ == -1 then _ else Lib.indexByte _ _ + 0) = Lib.indexByte (List.map UInt8.ofNat _) (UInt8.ofNat _)
  rw [Int.add_zero]
  split
  · rename_i h; exact (beq_iff_eq.1 h).symm
  · rfl
theorem orCnt_ok (hf : P.funcs[f]? = some fn) (hname : (fn.name == "runtime.NumGoroutine") = false) (hb : fn.body.isNone = true) (hn : Extern.findNext fn = none) (he : Extern.find fn = some Extern.BytealgCount.count) (hr : orCnt.f args h n lv = some r) : CaS P lv f args h n r := by
  unfold orCnt at hr
  simp only at hr
  split at hr
  case h_2 => cases hr
  obtain ⟨h1, hr⟩ := gu_some hr
  refine ora_val hf hname hb hn he hr fun β w vs hv => ?_
  obtain ⟨v, u, g1, g2, rfl⟩ := Vs2 hv
  obtain ⟨g3, rfl⟩ := V_str g1
  cases Option.some.inj (show some (Value.int .u8 _) = some u from g2)
  refine ⟨_, Lib.run_countString _ _ w, ?_⟩
  show some (Value.int .i64 _) = some (Value.int .i64 _)
  rw [cnt_eq (Nat.le_of_ble_eq_true h1) g3]
  rfl
theorem orAdd_ok (hf : P.funcs[f]? = some fn) (hname : (fn.name == "runtime.NumGoroutine") = false) (hb : fn.body.isNone = true) (hn : Extern.findNext fn = none) (he : Extern.find fn = some add64Entry) (hr : orAdd.f args h n lv = some r) : CaS P lv f args h n r := by
  unfold orAdd at hr
  simp only at hr
  split at hr
  case h_2 => cases hr
  rename_i x y c
  obtain ⟨h1, hr⟩ := gu_some hr
  have h1 := Nat.le_of_ble_eq_true h1
  refine ora_val hf hname hb hn he hr fun β w vs hv => ?_
  cases Option.some.inj (show some [Value.int .u64 x, .int .u64 y, .int .u64 c] = some vs from hv)
  refine ⟨_, run_add64 (x : Int) y c (by omega) (by omega) (by omega) (by omega) w, ?_⟩
  rfl

def sub64Entry : Array Value → Sem Value := fun args => do
  let (x, y, b) ← Extern.MathBitsCarry.three "Sub64" args
  pure (Extern.MathBitsCarry.pair ((x + Extern.MathBitsCarry.m64 - y - b) % Extern.MathBitsCarry.m64) (if x < y + b then 1 else 0))
theorem run_sub64 (x y b : Nat) (hb : b ≤ 1) (w : World) :
    (sub64Entry #[.int .u64 x, .int .u64 y, .int .u64 b]).run P w =
      .ok (.tuple #[.int .u64 (((x + 18446744073709551616 - y - b) % 18446744073709551616 : Nat) : Int), .int .u64 ((if x < y + b then 1 else 0 : Nat) : Int)]) w := by
  have : b = 0 ∨ b = 1 := by omega
  rcases this with rfl | rfl <;> rfl
theorem orSub_ok (hf : P.funcs[f]? = some fn) (hname : (fn.name == "runtime.NumGoroutine") = false) (hb : fn.body.isNone = true) (hn : Extern.findNext fn = none) (he : Extern.find fn = some sub64Entry) (hr : orSub.f args h n lv = some r) : CaS P lv f args h n r := by
  unfold orSub at hr
  simp only at hr
  split at hr
  case h_2 => cases hr
  rename_i x y c
  obtain ⟨h1, hr⟩ := gu_some hr
  have h1 := Nat.le_of_ble_eq_true h1
  refine ora_val hf hname hb hn he hr fun β w vs hv => ?_
  cases Option.some.inj (show some [Value.int .u64 x, .int .u64 y, .int .u64 c] = some vs from hv)
  refine ⟨_, run_sub64 x y c h1 w, ?_⟩
  have e : (bif Nat.ble (y + c) x then 0 else 1) = if x < y + c then 1 else 0 := by
    cases hb : Nat.ble (y + c) x with
    | true => rw [if_neg (by have := Nat.le_of_ble_eq_true hb; omega)]; rfl
    | false => rw [if_pos (by
        rcases Nat.lt_or_ge x (y + c) with g | g
        · exact g
        · rw [Nat.ble_eq_true_of_le g] at hb; cases hb)]; rfl
  rw [e]; rfl
theorem orEsc_ok (hf : P.funcs[f]? = some fn) (hname : (fn.name == "runtime.NumGoroutine") = false) (hb : fn.body.isNone = true) (hn : Extern.findNext fn = none) (he : Extern.find fn = some Extern.AbiNoEscape.same) (hr : orEsc.f args h n lv = some r) : CaS P lv f args h n r := by
  unfold orEsc at hr
  simp only at hr
  split at hr
  case h_2 => cases hr
  refine ora_val hf hname hb hn he hr fun β w vs hv => ?_
  obtain ⟨v, g1, rfl⟩ := Vs1 hv
  exact ⟨v, Lib.run_noEscape w v, g1⟩
theorem orMnz_ok {ps : Array TypeId} {t u : TypeId} (hf : P.funcs[f]? = some fn) (hname : (fn.name == "runtime.NumGoroutine") = false) (hb : fn.body.isNone = true) (hn : Extern.findNext fn = none) (he : Extern.find fn = some (Extern.BytealgMakeNoZero.makeNoZero ps #[t])) (ht : P.underlying t = some (.slice u)) (hr : (orMnz u).f args h n lv = some r) : CaS P lv f args h n r := by
  unfold orMnz at hr
  simp only at hr
  split at hr
  case h_2 => cases hr
  rename_i k
  obtain ⟨h1, hr⟩ := gu_some hr
  have h1 := Nat.le_of_ble_eq_true h1
  unfold lim at h1
  refine ora_ext hf hname hb hn he fun β w vs hv hk => ?_
  cases Option.some.inj (show some [Value.int .i64 k] = some vs from hv)
  obtain ⟨cs, g1, g2, _⟩ := Lib.run_makeNoZero (P := P) w ps t u ht k (by omega)
  obtain ⟨e1, e2, e3⟩ := rz_inj (show rz (.o n 0 k 1) (h.put (some ⟨.c [] u true, lv⟩) n) n.s = some r from hr)
  refine ⟨_, upB β n ⟨w.heap.size, 0, cs.size⟩, _, g1, ?_, ?_⟩
  · rw [e1]
    have hc : (cs.size - (0 + 0)) / 1 = cs.size := by omega
    have := V_omk (β := upB β n ⟨w.heap.size, 0, cs.size⟩) (n := n) (off := 0) (len := k) (sz := 1) (upB_eq _ _ _) (by show k ≤ (cs.size - (0 + 0)) / 1; rw [hc]; exact g2)
    rw [this]
    show some (Value.slice _ _ ((cs.size - (0 + 0)) / 1)) = _
    rw [hc]; rfl
  · rw [e2, e3]
    exact Mv.new hk lv lv (Nat.le_refl _) (obj := .cells cs u) rfl ⟨rfl, rfl, rfl, by show w.drawn ≤ w.drawn + 1 + 1; omega⟩ ⟨cs, [], rfl, rfl, rfl, fun i v hv => (by cases hv), by simp, fun h => (by cases h), rfl⟩
end
end Go.Ev
namespace Go.Ev
noncomputable section
def sameE : List (A × A × Nat) → List (A × A × Nat) → Bool
  | [], [] => true
  | (k, v, b) :: l, (k', v', b') :: r => same k k' && (same v v' && (Nat.beq b b' && sameE l r))
  | _, _ => false
def sameO : O → O → Bool
  | .c l T b, .c l' T' b' => sames l l' && (Nat.beq T T' && (b == b'))
  | .r l T, .r l' T' => sames l l' && Nat.beq T T'
  | .m es c, .m es' c' => sameE es es' && Nat.beq c c'
  | _, _ => false
def sameB : Option B → Option B → Bool
  | none, none => true
  | some a, some b => Nat.beq a.lv b.lv && sameO a.o b.o
  | _, _ => false
def empT (t : Tr B) : Bool := Tr.rec true (fun v _ _ a b => v.isNone && (a && b)) t
def sameT (t : Tr B) : Tr B → Bool := Tr.rec (fun u => empT u) (fun v _ _ a b u => sameB v u.v && (a u.l && b u.r)) t
def isR (o : Option R) (r : R) : Bool := Option.casesOn o false fun x => same x.a r.a && (sameT x.h r.h && Po.eq x.n r.n)

structure Mm where
  f : FuncId
  lv : Nat
  args : List A
  h : Tr B
  n : Po
  r : R
def hit (m : Mm) (args : List A) (h : Tr B) (n : Po) (lv : Nat) : Bool := Po.eq n m.n && (sames args m.args && (Nat.beq lv m.lv && sameT h m.h))
def memoF (m : Mm) (o : Ora) : Ora := fun f => cn (Nat.beq f m.f) (some ⟨fun args h n lv => cn (hit m args h n lv) (some m.r) (match o f with | some b => b.f args h n lv | none => none)⟩) (o f)

def Q (t : Nat) : Po := Nat.rec (fun _ => .h) (fun _ ih t => cn (Nat.ble t 1) .h (cn (Nat.beq (Nat.land t 1) 0) (.o (ih (Nat.shiftRight t 1))) (.i (ih (Nat.shiftRight t 1))))) 26 t
def aI (n : Nat) : A := .i .i64 (.ofNat n)
def aJ (n : Nat) : A := .i .i64 (.negSucc n)
def aU (n : Nat) : A := .i .u64 (.ofNat n)
def aN : A := .k (.slice none 0 0)
def aP (n off : Nat) : A := .p (Q n) off
def aL (n off len cap : Nat) : A := .l (Q n) off len cap
def aO (n off len sz : Nat) : A := .o (Q n) off len sz
def bC (n : Nat) (l : List A) (T : TypeId) (op : Bool) (lv : Nat) (h : Tr B) : Tr B := h.put (some ⟨.c l T op, lv⟩) (Q n)
def bR (n : Nat) (l : List A) (T : TypeId) (lv : Nat) (h : Tr B) : Tr B := h.put (some ⟨.r l T, lv⟩) (Q n)
def bM (n : Nat) (l : List (A × A × Nat)) (c : Nat) (lv : Nat) (h : Tr B) : Tr B := h.put (some ⟨.m l c, lv⟩) (Q n)
def pow10 : List A := [1,10,100,1000,10000,100000,1000000,10000000,100000000,1000000000,10000000000,100000000000,1000000000000,10000000000000,100000000000000,1000000000000000,10000000000000000,100000000000000000,1000000000000000000,10000000000000000000].map fun z => .i .u64 (.ofNat z)
end
def Teq (t u : Tr B) : Prop := ∀ q, t.get q = u.get q
theorem sameE_eq : ∀ {l r : List (A × A × Nat)}, sameE l r = true → l = r
  | [], [], _ => rfl
  | (k, v, b) :: l, (k', v', b') :: r, h => by
    have h : (same k k' && (same v v' && (Nat.beq b b' && sameE l r))) = true := h
    rw [Bool.and_eq_true, Bool.and_eq_true, Bool.and_eq_true] at h
    rw [same_eq _ _ h.1, same_eq _ _ h.2.1, Nat.eq_of_beq_eq_true h.2.2.1, sameE_eq h.2.2.2]
theorem sameO_eq {a b : O} (h : sameO a b = true) : a = b := by
  unfold sameO at h
  split at h
  · rw [Bool.and_eq_true, Bool.and_eq_true] at h
    rw [sames_eq _ _ h.1, Nat.eq_of_beq_eq_true h.2.1, beq_iff_eq.1 h.2.2]
  · rw [Bool.and_eq_true] at h
    rw [sames_eq _ _ h.1, Nat.eq_of_beq_eq_true h.2]
  · rw [Bool.and_eq_true] at h
    rw [sameE_eq h.1, Nat.eq_of_beq_eq_true h.2]
  · cases h
theorem sameB_eq {a b : Option B} (h : sameB a b = true) : a = b := by
  unfold sameB at h
  split at h
  · rfl
  · rename_i x y
    rw [Bool.and_eq_true] at h
    have h1 := Nat.eq_of_beq_eq_true h.1
    have h2 := sameO_eq h.2
    cases x; cases y; simp only at h1 h2; rw [h1, h2]
  · cases h
theorem Tr.get_o {α : Type} (p : Po) (t : Tr α) : t.get (.o p) = t.l.get p := rfl
theorem Tr.get_i {α : Type} (p : Po) (t : Tr α) : t.get (.i p) = t.r.get p := rfl
theorem Tr.get_h {α : Type} (t : Tr α) : t.get .h = t.v := rfl
theorem empT_get : ∀ {u : Tr B}, empT u = true → ∀ q, u.get q = none
  | .lf, _, q => Tr.get_lf q
  | .nd v l r, h, q => by
    have h : (v.isNone && (empT l && empT r)) = true := h
    rw [Bool.and_eq_true, Bool.and_eq_true] at h
    cases q with
    | h => exact Option.isNone_iff_eq_none.1 h.1
    | o q => exact empT_get h.2.1 q
    | i q => exact empT_get h.2.2 q
theorem sameT_get : ∀ {t u : Tr B}, sameT t u = true → Teq t u
  | .lf, u, h, q => by rw [Tr.get_lf, empT_get (show empT u = true from h) q]
  | .nd v l r, u, h, q => by
    have h : (sameB v u.v && (sameT l u.l && sameT r u.r)) = true := h
    rw [Bool.and_eq_true, Bool.and_eq_true] at h
    cases q with
    | h => exact sameB_eq h.1
    | o q => exact sameT_get h.2.1 q
    | i q => exact sameT_get h.2.2 q
section
variable {P : Program} {lv : Nat} {β β' : Be} {h h' h1 h1' : Tr B} {n n' : Po} {w w' : World}
theorem Ok.congr (k : Ok β h n w) (e : Teq h h') : Ok β h' n w :=
  ⟨fun q b hq => k.ob q b (by rw [e]; exact hq), fun q q' b b' p p' hq hq' => k.inj q q' b b' p p' (by rw [e]; exact hq) (by rw [e]; exact hq'), k.top⟩
theorem Mv.congr (M : Mv lv β h n w β' h1 n' w') (e : Teq h h') (e1 : Teq h1 h1') : Mv lv β h' n w β' h1' n' w' :=
  ⟨M.le, M.old, M.ok.congr e1, M.os, M.tape, M.out, M.drawn, M.size, fun b hb hh => M.fr b hb fun q c p hq => hh q c p (by rw [← e]; exact hq),
    fun q c p hq hp hb => by obtain ⟨q0, c0, p0, g1, g2⟩ := M.src q c p (by rw [e1]; exact hq) hp hb; exact ⟨q0, c0, p0, by rw [← e]; exact g1, g2⟩,
    fun K hK hh q c hq => M.lvb K hK (fun q c hq => hh q c (by rw [← e]; exact hq)) q c (by rw [e1]; exact hq)⟩
theorem CaS.congr {f : FuncId} {args : List A} {r r' : R} (c : CaS P lv f args h n r) (e : Teq h h') (ea : r.a = r'.a) (en : r.n = r'.n) (eh : Teq r.h r'.h) : CaS P lv f args h' n r' := fun β w vs hv hk hg hL => by
  have e' : Teq h' h := fun q => (e q).symm
  rcases c β w vs hv (hk.congr e') hg (fun q x hq => hL q x (by rw [e'] ; exact hq)) with ⟨g1, v, β', w', g2, g3, g4⟩ | ⟨g1, g2⟩
  · exact .inl ⟨g1, v, β', w', g2, by rw [← ea]; exact g3, by rw [← en]; exact g4.congr e eh⟩
  · refine .inr ⟨g1, g2.mono ?_⟩
    rintro x w' ⟨v, β', k1, k2, k3⟩
    exact ⟨v, β', k1, by rw [← ea]; exact k2, by rw [← en]; exact k3.congr e eh⟩
theorem isR_ok {o : Option R} {r : R} (h : isR o r = true) : ∃ x, o = some x ∧ x.a = r.a ∧ Teq x.h r.h ∧ x.n = r.n := by
  cases o with
  | none => cases h
  | some x =>
    have h : (same x.a r.a && (sameT x.h r.h && Po.eq x.n r.n)) = true := h
    rw [Bool.and_eq_true, Bool.and_eq_true] at h
    exact ⟨x, rfl, same_eq _ _ h.1, sameT_get h.2.1, Po.eq_eq h.2.2⟩

theorem memo_ca {imp : FuncId → Bool} {ora : Ora} (hS : StB P = true) (hO : OraS P ora) {k : Nat} {m : Mm} (hm : isR (go P imp ora k (.ca m.lv m.f m.args m.h m.n)) m.r = true) : CaS P m.lv m.f m.args m.h m.n m.r := by
  obtain ⟨x, h1, h2, h3, h4⟩ := isR_ok hm
  exact CaS.congr (go_ok hS hO k _ _ h1) (fun _ => rfl) h2 h4 h3
theorem memo_ok {ora : Ora} (hO : OraS P ora) {m : Mm} (hm : CaS P m.lv m.f m.args m.h m.n m.r) : OraS P (memoF m ora) := by
  intro f o ho lv args h n r hr
  unfold memoF at ho
  rw [cn_eq] at ho
  split at ho
  · rename_i hf
    have hf := Nat.eq_of_beq_eq_true hf; subst hf
    cases Option.some.inj ho
    replace hr : cn (hit m args h n lv) (some m.r) (match ora m.f with | some b => b.f args h n lv | none => none) = some r := hr
    rw [cn_eq] at hr
    split at hr
    · rename_i hh
      cases Option.some.inj hr
      unfold hit at hh
      rw [Bool.and_eq_true, Bool.and_eq_true, Bool.and_eq_true] at hh
      obtain ⟨e1, e2, e3, e4⟩ := hh
      have e1 := Po.eq_eq e1
      have e2 := sames_eq _ _ e2
      have e3 := Nat.eq_of_beq_eq_true e3
      subst e1; subst e2; subst e3
      exact CaS.congr hm (fun q => (sameT_get e4 q).symm) rfl rfl (fun _ => rfl)
    · split at hr
      · rename_i b hb
        exact hO _ _ hb lv args h n r hr
      · cases hr
  · exact hO f o ho lv args h n r hr
end
end Go.Ev
namespace Go.Ev
open Go.RowKit
noncomputable section
def hG (g : Nat) : Tr B := (Tr.lf : Tr B).put (some ⟨.r pow10 0, 0⟩) (po g)
def bG (g lv : Nat) (h : Tr B) : Tr B := h.put (some ⟨.r pow10 0, lv⟩) (po g)
def n0 : Po := .o (.o (.o (.o (.o (.o (.o .h))))))
def isT (r : Option R) : Bool := Option.casesOn r false fun x => same x.a (.b true)
def powZ : List Int := [1,10,100,1000,10000,100000,1000000,10000000,100000000,1000000000,10000000000,100000000000,1000000000000,10000000000000,100000000000000,1000000000000000,10000000000000000,100000000000000000,1000000000000000000,10000000000000000000]
end
theorem Vs_pow (β : Be) : Vs β pow10 = some (powZ.map fun z => Value.int .u64 z) := rfl
theorem orMul_ok {P : Program} {f : FuncId} {lv : Nat} {args : List A} {h : Tr B} {n : Po} {r : R} (he : Enters P f) (hc : ∀ (x y : Nat), x < 18446744073709551616 → y < 18446744073709551616 → ∀ w : World, Calls P f #[.int .u64 x, .int .u64 y] w fun e w' => e = .returned (.tuple #[.int .u64 ((x * y / 18446744073709551616 : Nat) : Int), .int .u64 ((x * y % 18446744073709551616 : Nat) : Int)]) ∧ w' = w)
    (hr : orMul.f args h n lv = some r) : CaS P lv f args h n r := by
  unfold orMul at hr
  simp only at hr
  split at hr
  case h_2 => cases hr
  rename_i x y
  obtain ⟨h1, hr⟩ := gu_some hr
  obtain ⟨h2, hr⟩ := gu_some hr
  obtain ⟨e1, e2, e3⟩ := rz_inj hr
  intro β w vs hv hk _ _
  cases Option.some.inj (show some [Value.int .u64 x, .int .u64 y] = some vs from hv)
  refine .inr ⟨he _ _, (hc x y (Nat.le_of_ble_eq_true h1) (Nat.le_of_ble_eq_true h2) w).mono ?_⟩
  rintro e w' ⟨rfl, rfl⟩
  exact ⟨_, β, rfl, by rw [e1]; rfl, by rw [e2, e3]; exact Mv.refl hk⟩

theorem start_calls {P : Program} {f : FuncId} {g : Nat} {r : R} (hb : hasB P f = true) (hg : g ≤ 60) (hc : CaS P 1 f [] (hG g) n0 r) (ha : r.a = .b true) {w : World} {T : TypeId} {fr : Nat × Nat} (hw : w.heap[g]? = some (.cells (powZ.map fun z => Value.int .u64 z).toArray T fr)) :
    Calls P f #[] w fun e w' => e = .returned (.bool true) ∧ Below w.heap.size w w' := by
  obtain ⟨β, hβ⟩ : ∃ β : Be, β = fun q => if q.n < 128 then some ⟨q.u, 0, 20⟩ else none := ⟨_, rfl⟩
  have hpo : ∀ {i : Nat}, i ≤ 60 → β (po i) = some ⟨i, 0, 20⟩ := fun {i} hi => by
    rw [hβ]
    show (if (po i).n < 128 then _ else _) = _
    rw [if_pos (po_n hi)]
    unfold po
    rw [u_poF i i (Nat.le_refl _)]
  have hget : ∀ {q b}, (hG g).get q = some b → q = po g ∧ b = ⟨.r pow10 0, 0⟩ := fun {q b} hq => by
    rcases Tr.get_put _ hq with ⟨e1, e2⟩ | ⟨_, e2⟩
    · exact ⟨e1, (Option.some.inj e2).symm⟩
    · rw [Tr.get_lf] at e2; cases e2
  have hk : Ok β (hG g) n0 w := by
    refine ⟨fun q b hq => ?_, fun q q' b b' p p' hq hq' _ _ _ => ?_, fun q hq => ?_⟩
    · obtain ⟨rfl, rfl⟩ := hget hq
      refine ⟨_, _, hpo hg, hw, _, T, fr, _, rfl, rfl, Vs_pow β, fun i v hv => ?_, Nat.le_refl _⟩
      rw [Nat.zero_add]
      simpa using hv
    · rw [(hget hq).1, (hget hq').1]
    · have hq : 128 ≤ q.n := hq
      rw [hβ]
      show (if q.n < 128 then _ else _) = _
      rw [if_neg (by omega)]
  rcases hc β w [] rfl hk ⟨Nat.le_refl 128, fun i hi => ⟨_, hpo hi⟩⟩ (fun q x hq => by obtain ⟨_, rfl⟩ := hget hq; exact Nat.zero_le 1) with ⟨h, _⟩ | ⟨_, h⟩
  · rw [hb] at h; cases h
  · refine h.mono ?_
    rintro e w' ⟨v, β', rfl, h1, M⟩
    rw [ha] at h1
    cases Option.some.inj (show some (Value.bool true) = some v from h1)
    exact ⟨rfl, M.os, M.tape, M.out, M.size, fun k hk => M.fr k hk fun q c p hq hc _ => by obtain ⟨_, rfl⟩ := hget hq; exact absurd hc (by decide)⟩
theorem isT_ok {o : Option R} (h : isT o = true) : ∃ r, o = some r ∧ r.a = .b true := by
  cases o with
  | none => cases h
  | some x => exact ⟨x, rfl, same_eq _ _ h⟩
end Go.Ev
