/-
  The card of RunLostMotion: whatever the input, the law answers true and leaves its input as it was.
-/
import Derived.Test.YtfdgciidfohhgaaGreatDoorTie
import Derived.Test.YtfdgciidfohhgaaGreatDoorLCA
set_option linter.all false
namespace Go.Proofs.YtfdgciidfohhgaaGreatDoor
open Go.RowKit Go.ChangeShapes Go.WideShapes Ig
theorem kMotion_0 : Rows.runLostMotionRow.wf (OpenSpec.ofChange Rows.runLostMotionSpec) = true := by kernel_rfl
theorem kMotion_1 : Tryz.f4.params.all (Tryz.checked.prog.readableRec ·) = true := by kernel_rfl
theorem kMotion_2 : namedTie Tryz.checked.prog Rows.runLostMotionRow.named Rows.runLostMotionSpec.vars = true := by kernel_rfl
theorem kMotion_3 : (Rows.runLostMotionRow.stops == []) = true := by kernel_rfl
theorem kMotion_4 : (Tryz.checked.prog.stops == []) = true := by kernel_rfl
theorem kMotion_5 : (Rows.runLostMotionRow.knobs == []) = true := by kernel_rfl
theorem kMotion_6 : (Tryz.checked.prog.stopKnobs == []) = true := by kernel_rfl
theorem kMotion_7 : (Rows.runLostMotionRow.inPlace == Tryz.checked.prog.inPlace 4) = true := by kernel_rfl
theorem kMotion_8 : (Rows.runLostMotionRow.unfollowed == Tryz.checked.prog.unfollowed 4) = true := by kernel_rfl
theorem kMotion_9 : (Rows.runLostMotionRow.recurses == Tryz.checked.prog.recurses 4) = true := by kernel_rfl
theorem kMotion_10 : (Rows.runLostMotionRow.named == Tryz.checked.prog.varsNamed 4) = true := by kernel_rfl
theorem kMotion_11 : (Rows.runLostMotionRow.maps == (Tryz.f4.params.toList ++ Rows.runLostMotionSpec.plain.varTypes Tryz.checked.prog).any (Tryz.checked.prog.mapsRec ·)) = true := by kernel_rfl
theorem kMotion_12 : (Rows.runLostMotionRow.ifaces == (Tryz.f4.params.toList ++ Rows.runLostMotionSpec.plain.varTypes Tryz.checked.prog).any (Tryz.checked.prog.ifacesRec ·)) = true := by kernel_rfl
theorem kMotion_13 : (Rows.runLostMotionRow.mapsOut == Tryz.checked.prog.mapsAmong Tryz.f4.resultTypes.toList) = true := by kernel_rfl
theorem kMotion_14 : (Rows.runLostMotionRow.loops == (Tryz.f4.params.toList ++ Rows.runLostMotionSpec.plain.varTypes Tryz.checked.prog).any (Tryz.checked.prog.loopsFrom ·)) = true := by kernel_rfl
theorem kMotion_15 : (Rows.runLostMotionRow.wideKeys == (Tryz.f4.params.toList ++ Rows.runLostMotionSpec.plain.varTypes Tryz.checked.prog ++ Tryz.f4.resultTypes.toList).any (Tryz.checked.prog.wideKeysFrom ·)) = true := by kernel_rfl
theorem kMotion_16 : Rows.runLostMotionSpec.vars.all (Tryz.checked.prog.varReadable ·) = true := by kernel_rfl
theorem kMotion_17 : (Tryz.f4.resultTypes.all (fun t => Tryz.checked.prog.readableRec t && decide (t < Tryz.checked.prog.types.size))) = true := by kernel_rfl
theorem kMotion_18 : (Rows.runLostMotionRow.ifacesOut == Tryz.f4.resultTypes.toList.any (Tryz.checked.prog.ifacesRec ·)) = true := by kernel_rfl
theorem kMotion_19 : (Rows.runLostMotionRow.loopsOut == Tryz.f4.resultTypes.toList.any (Tryz.checked.prog.loopsFrom ·)) = true := by kernel_rfl
theorem kMotion_20 : Rows.runLostMotionRow.shortTexts.isNone = true := by kernel_rfl
theorem kMotion_21 : (Rows.runLostMotionRow.pinned == Rows.runLostMotionRow.pinnedBy) = true := by kernel_rfl
theorem kMotion_22 : (Rows.runLostMotionRow.veiled == (Tryz.f4.params.toList ++ Rows.runLostMotionSpec.plain.varTypes Tryz.checked.prog ++ Tryz.f4.resultTypes.toList).any (Tryz.checked.prog.veiledRec ·)) = true := by kernel_rfl
theorem kMotion_23 : Rows.runLostMotionRow.veiledFits Tryz.checked.prog Tryz.f4.params.toList (Tryz.f4.params.toList ++ Rows.runLostMotionSpec.plain.varTypes Tryz.checked.prog ++ Tryz.f4.resultTypes.toList) = true := by kernel_rfl
theorem kMotion_closed : joinedFacts Tryz.checked.prog 4 Tryz.f4 Rows.runLostMotionSpec Rows.runLostMotionRow = true := by
  unfold joinedFacts
  exact and_tt (and_tt (and_tt (and_tt (and_tt (and_tt (and_tt (and_tt (and_tt (and_tt (and_tt (and_tt (and_tt (and_tt (and_tt (and_tt (and_tt (and_tt (and_tt (and_tt (and_tt (and_tt (and_tt (and_tt (and_tt (and_tt (and_tt (and_tt (and_tt (and_tt (and_tt kMotion_0 pc_laid) pc_maps) kMotion_1) kMotion_2) kMotion_3) kMotion_4) kMotion_5) kMotion_6) kMotion_7) kMotion_8) kMotion_9) kMotion_10) kMotion_11) kMotion_12) kMotion_13) kMotion_14) kMotion_15) kMotion_16) kMotion_17) kMotion_18) kMotion_19) pc_keys) kMotion_20) pc_heard) pc_enter) pc_lift) pc_make) (by kernel_rfl)) kMotion_21) kMotion_22) kMotion_23
theorem kMotion_pre {H : Type} (enc : TypeId × Value → H) (os : Os) : Rows.runLostMotionSpec.preB enc Tryz.checked.prog Tryz.f4 [] false ((World.laidAll Tryz.prog os lrows).forCall (fun _ _ => 0) ⟨#[], #[.int .u16 0, .int .u16 0, .slice none 0 0], []⟩).memory #[.int .u16 0, .int .u16 0, .slice none 0 0] 8 = true := by kernel_rfl
theorem kMotion_sized {H : Type} (enc : TypeId × Value → H) (os : Os) : Rows.runLostMotionSpec.sizedB enc Tryz.checked.prog Tryz.f4 false ((World.laidAll Tryz.prog os lrows).forCall (fun _ _ => 0) ⟨#[], #[.int .u16 0, .int .u16 0, .slice none 0 0], []⟩).memory #[.int .u16 0, .int .u16 0, .slice none 0 0] 8 = true := by kernel_rfl
theorem kMotion_okw (os : Os) : Input.okWideB Tryz.checked.prog ((World.laidAll Tryz.prog os lrows).forCall (fun _ _ => 0) ⟨#[], #[.int .u16 0, .int .u16 0, .slice none 0 0], []⟩) 4 ⟨#[], #[.int .u16 0, .int .u16 0, .slice none 0 0], []⟩ = true := by kernel_rfl
theorem kMotion_shaped (os : Os) : ((World.laidAll Tryz.prog os lrows).forCall (fun _ _ => 0) ⟨#[], #[.int .u16 0, .int .u16 0, .slice none 0 0], []⟩).Shaped Tryz.checked.prog := World.shaped_of_ZipB (by kernel_rfl) (by kernel_rfl)
theorem kMotion_idx : Tryz.prog.inits.idxOf? 4 = none := by kernel_rfl
theorem kMotion_read : (Tryz.f4.params.toList.all fun t => Tryz.prog.readableRec t && decide (t < Tryz.prog.types.size)) = true := by kernel_rfl
set_option maxRecDepth 100000 in
theorem kMotion_lifted (os : Os) (started : os.Started) (H : Type) (enc : TypeId × Value → H) :
    ReturnsInHanded {} Tryz.checked os 4 .any (fun w args => (Rows.runLostMotionSpec.pre enc Tryz.prog Tryz.f4 [] false w args ∧ laidMetH Tryz.prog lrows w) ∧ sizedMet enc Tryz.prog Tryz.f4 (OpenSpec.ofChange Rows.runLostMotionSpec) false w args)
      (Rows.runLostMotionSpec.post enc Tryz.prog Tryz.f4 false true false false) := by
  refine law_lifted os started enc Tryz.func4 kMotion_idx rfl (fun ds h => ?_) rfl kMotion_read
    (ChangeSpec.witness_shaped (enc := enc) (C := Tryz.checked) (os := os) (X := fun w _ => laidMetH Tryz.prog lrows w) false (World.laidAll Tryz.prog os lrows) #[.int .u16 0, .int .u16 0, .slice none 0 0] 8 (World.laidAll_os _ _ _) (kMotion_shaped os) (kMotion_okw os) (kMotion_pre enc os) (kMotion_sized enc os) (door_met os _)) ?_
  · match ds, h with
    | [d1, d2, d3], _ => rfl
  · intro W base args ds ps hval hA hF hG
    have hval : ∀ (j : Nat) t v, (#[30, 30, 31] : Array TypeId)[j]? = some t → args[j]? = some v → Value.okWide Tryz.prog W .any base t v := hval
    have hA : DataW.TrodAll enc Tryz.prog W 0 (fun _ => true) true [30, 30, 31] args.toList ds ps := hA
    obtain ⟨v0, v1, v2, d0, d1, d2, p0, p1, p2, rfl, rfl, rfl, h0, h1, h2⟩ := trodAll_three hA
    obtain ⟨a, rfl, ha⟩ := open_u16 Tryz.underlying30 (hval 0 _ _ rfl rfl) h0
    obtain ⟨b, rfl, hb⟩ := open_u16 Tryz.underlying30 (hval 1 _ _ rfl rfl) h1
    obtain ⟨q, n, cap, l, rfl, hR, hn, _, h8⟩ := open_ints8 (hval 2 _ _ rfl rfl) h2
    exact lostm_g hF hG ha hb hR hn h8
theorem kMotion_named : Tryz.prog.funcNamed "integraph/integraphlaw09.RunLostMotion" = some 4 := by kernel_rfl
theorem kMotion_inst : Tryz.f4.isInstance Tryz.checked.prog Rows.runLostMotionRow.origin Rows.runLostMotionRow.targs := of_decide_eq_true (by kernel_rfl)
theorem kMotion_wrap : Tryz.f4.isWrapper Tryz.checked.prog Rows.runLostMotionRow.wrapper Rows.runLostMotionRow.mainSum := by unfold Func.isWrapper; first | (rw [if_pos (by decide +kernel)]; kernel_rfl) | (rw [if_neg (by decide +kernel)]; exact ⟨rfl, rfl⟩)
theorem runLostMotion_holds : Rows.RunLostMotionSaid :=
  OpenClaim.holds_of_wide 4 Tryz.f4 rfl rfl rfl rfl rfl rfl rfl ⟨rfl, rfl, rfl, rfl, rfl⟩ rfl rfl rfl rfl rfl kMotion_named Tryz.func4 kMotion_closed kMotion_inst kMotion_wrap
    (fun os started H enc _ => kMotion_lifted os started H enc)
theorem kMotion_bytext : Rows.runLostMotionRow.wfByText (OpenSpec.ofChange Rows.runLostMotionSpec) = true := by kernel_rfl
theorem kMotion_wants : (Tryz.f4.params.toList.all fun u => !Tryz.prog.wantsStandIn u) = true := by kernel_rfl
theorem kMotion_goes : false = Rows.runLostMotionRow.goesBy Tryz.checked.prog := by kernel_rfl
theorem runLostMotion_card_holds : Rows.RunLostMotionCardSaid :=
  Claim7.holds_tied_plain_at .later [] [.data, .data, .data, .data, .sentinel, .sentinel, .pinned] true (true, "ae0898d450fd1c0dd9d3f1cbd2a28d66abb8f24060f615f480e48cd27d7cefaf") true
    runLostMotion_holds (fun _ h => by cases h) kMotion_bytext (fun _ h => by cases h) runLostMotion_row_tie rfl ⟨rfl, rfl⟩ pc_main rfl
    (fun f fn hf hfn => by
      obtain rfl : f = 4 := Option.some.inj (kMotion_named.symm.trans hf) |>.symm
      obtain rfl : fn = Tryz.f4 := (Option.some.inj (Tryz.func4.symm.trans hfn)).symm
      exact ⟨pc_looks, fun j t ht => by
        have hm : t ∈ Tryz.f4.params.toList := by simpa using Array.mem_of_getElem? ht
        exact (show Tryz.prog.wantsStandIn t = false by simpa using List.all_eq_true.1 kMotion_wants t hm)⟩)
    kMotion_goes
#print axioms runLostMotion_card_holds
end Go.Proofs.YtfdgciidfohhgaaGreatDoor
