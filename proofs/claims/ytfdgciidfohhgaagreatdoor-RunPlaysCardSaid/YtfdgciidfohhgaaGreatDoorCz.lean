/-
  The card of RunPlays: whatever the input, the law answers true and leaves its input as it was.
-/
import Derived.Test.YtfdgciidfohhgaaGreatDoorTie
import Derived.Test.YtfdgciidfohhgaaGreatDoorLCz
set_option linter.all false
namespace Go.Proofs.YtfdgciidfohhgaaGreatDoor
open Go.RowKit Go.ChangeShapes Go.WideShapes Ig
theorem ks_0 : Rows.runPlaysRow.wf (OpenSpec.ofChange Rows.runPlaysSpec) = true := by kernel_rfl
theorem ks_1 : Tryz.f3.params.all (Tryz.checked.prog.readableRec ·) = true := by kernel_rfl
theorem ks_2 : namedTie Tryz.checked.prog Rows.runPlaysRow.named Rows.runPlaysSpec.vars = true := by kernel_rfl
theorem ks_3 : (Rows.runPlaysRow.stops == []) = true := by kernel_rfl
theorem ks_4 : (Tryz.checked.prog.stops == []) = true := by kernel_rfl
theorem ks_5 : (Rows.runPlaysRow.knobs == []) = true := by kernel_rfl
theorem ks_6 : (Tryz.checked.prog.stopKnobs == []) = true := by kernel_rfl
theorem ks_7 : (Rows.runPlaysRow.inPlace == Tryz.checked.prog.inPlace 3) = true := by kernel_rfl
theorem ks_8 : (Rows.runPlaysRow.unfollowed == Tryz.checked.prog.unfollowed 3) = true := by kernel_rfl
theorem ks_9 : (Rows.runPlaysRow.recurses == Tryz.checked.prog.recurses 3) = true := by kernel_rfl
theorem ks_10 : (Rows.runPlaysRow.named == Tryz.checked.prog.varsNamed 3) = true := by kernel_rfl
theorem ks_11 : (Rows.runPlaysRow.maps == (Tryz.f3.params.toList ++ Rows.runPlaysSpec.plain.varTypes Tryz.checked.prog).any (Tryz.checked.prog.mapsRec ·)) = true := by kernel_rfl
theorem ks_12 : (Rows.runPlaysRow.ifaces == (Tryz.f3.params.toList ++ Rows.runPlaysSpec.plain.varTypes Tryz.checked.prog).any (Tryz.checked.prog.ifacesRec ·)) = true := by kernel_rfl
theorem ks_13 : (Rows.runPlaysRow.mapsOut == Tryz.checked.prog.mapsAmong Tryz.f3.resultTypes.toList) = true := by kernel_rfl
theorem ks_14 : (Rows.runPlaysRow.loops == (Tryz.f3.params.toList ++ Rows.runPlaysSpec.plain.varTypes Tryz.checked.prog).any (Tryz.checked.prog.loopsFrom ·)) = true := by kernel_rfl
theorem ks_15 : (Rows.runPlaysRow.wideKeys == (Tryz.f3.params.toList ++ Rows.runPlaysSpec.plain.varTypes Tryz.checked.prog ++ Tryz.f3.resultTypes.toList).any (Tryz.checked.prog.wideKeysFrom ·)) = true := by kernel_rfl
theorem ks_16 : Rows.runPlaysSpec.vars.all (Tryz.checked.prog.varReadable ·) = true := by kernel_rfl
theorem ks_17 : (Tryz.f3.resultTypes.all (fun t => Tryz.checked.prog.readableRec t && decide (t < Tryz.checked.prog.types.size))) = true := by kernel_rfl
theorem ks_18 : (Rows.runPlaysRow.ifacesOut == Tryz.f3.resultTypes.toList.any (Tryz.checked.prog.ifacesRec ·)) = true := by kernel_rfl
theorem ks_19 : (Rows.runPlaysRow.loopsOut == Tryz.f3.resultTypes.toList.any (Tryz.checked.prog.loopsFrom ·)) = true := by kernel_rfl
theorem ks_20 : Rows.runPlaysRow.shortTexts.isNone = true := by kernel_rfl
theorem ks_21 : (Rows.runPlaysRow.pinned == Rows.runPlaysRow.pinnedBy) = true := by kernel_rfl
theorem ks_22 : (Rows.runPlaysRow.veiled == (Tryz.f3.params.toList ++ Rows.runPlaysSpec.plain.varTypes Tryz.checked.prog ++ Tryz.f3.resultTypes.toList).any (Tryz.checked.prog.veiledRec ·)) = true := by kernel_rfl
theorem ks_23 : Rows.runPlaysRow.veiledFits Tryz.checked.prog Tryz.f3.params.toList (Tryz.f3.params.toList ++ Rows.runPlaysSpec.plain.varTypes Tryz.checked.prog ++ Tryz.f3.resultTypes.toList) = true := by kernel_rfl
theorem ks_closed : joinedFacts Tryz.checked.prog 3 Tryz.f3 Rows.runPlaysSpec Rows.runPlaysRow = true := by
  unfold joinedFacts
  exact and_tt (and_tt (and_tt (and_tt (and_tt (and_tt (and_tt (and_tt (and_tt (and_tt (and_tt (and_tt (and_tt (and_tt (and_tt (and_tt (and_tt (and_tt (and_tt (and_tt (and_tt (and_tt (and_tt (and_tt (and_tt (and_tt (and_tt (and_tt (and_tt (and_tt (and_tt ks_0 pc_laid) pc_maps) ks_1) ks_2) ks_3) ks_4) ks_5) ks_6) ks_7) ks_8) ks_9) ks_10) ks_11) ks_12) ks_13) ks_14) ks_15) ks_16) ks_17) ks_18) ks_19) pc_keys) ks_20) pc_heard) pc_enter) pc_lift) pc_make) (by kernel_rfl)) ks_21) ks_22) ks_23
theorem ks_pre {H : Type} (enc : TypeId × Value → H) (os : Os) : Rows.runPlaysSpec.preB enc Tryz.checked.prog Tryz.f3 [] false ((World.laidAll Tryz.prog os lrows).forCall (fun _ _ => 0) ⟨#[], #[.int .i64 0, .int .i64 0, .slice none 0 0], []⟩).memory #[.int .i64 0, .int .i64 0, .slice none 0 0] 8 = true := by kernel_rfl
theorem ks_sized {H : Type} (enc : TypeId × Value → H) (os : Os) : Rows.runPlaysSpec.sizedB enc Tryz.checked.prog Tryz.f3 false ((World.laidAll Tryz.prog os lrows).forCall (fun _ _ => 0) ⟨#[], #[.int .i64 0, .int .i64 0, .slice none 0 0], []⟩).memory #[.int .i64 0, .int .i64 0, .slice none 0 0] 8 = true := by kernel_rfl
theorem ks_okw (os : Os) : Input.okWideB Tryz.checked.prog ((World.laidAll Tryz.prog os lrows).forCall (fun _ _ => 0) ⟨#[], #[.int .i64 0, .int .i64 0, .slice none 0 0], []⟩) 3 ⟨#[], #[.int .i64 0, .int .i64 0, .slice none 0 0], []⟩ = true := by kernel_rfl
theorem ks_shaped (os : Os) : ((World.laidAll Tryz.prog os lrows).forCall (fun _ _ => 0) ⟨#[], #[.int .i64 0, .int .i64 0, .slice none 0 0], []⟩).Shaped Tryz.checked.prog := World.shaped_of_ZipB (by kernel_rfl) (by kernel_rfl)
theorem ks_idx : Tryz.prog.inits.idxOf? 3 = none := by kernel_rfl
theorem ks_read : (Tryz.f3.params.toList.all fun t => Tryz.prog.readableRec t && decide (t < Tryz.prog.types.size)) = true := by kernel_rfl
set_option maxRecDepth 100000 in
theorem ks_lifted (os : Os) (started : os.Started) (H : Type) (enc : TypeId × Value → H) :
    ReturnsInHanded {} Tryz.checked os 3 .any (fun w args => (Rows.runPlaysSpec.pre enc Tryz.prog Tryz.f3 [] false w args ∧ laidMetH Tryz.prog lrows w) ∧ sizedMet enc Tryz.prog Tryz.f3 (OpenSpec.ofChange Rows.runPlaysSpec) false w args)
      (Rows.runPlaysSpec.post enc Tryz.prog Tryz.f3 false true false false) := by
  refine law_lifted os started enc Tryz.func3 ks_idx rfl (fun ds h => ?_) rfl ks_read
    (ChangeSpec.witness_shaped (enc := enc) (C := Tryz.checked) (os := os) (X := fun w _ => laidMetH Tryz.prog lrows w) false (World.laidAll Tryz.prog os lrows) #[.int .i64 0, .int .i64 0, .slice none 0 0] 8 (World.laidAll_os _ _ _) (ks_shaped os) (ks_okw os) (ks_pre enc os) (ks_sized enc os) (door_met os _)) ?_
  · match ds, h with
    | [d1, d2, d3], _ => rfl
  · intro W base args ds ps hval hA hF hG
    have hval : ∀ (j : Nat) t v, (#[3, 3, 22] : Array TypeId)[j]? = some t → args[j]? = some v → Value.okWide Tryz.prog W .any base t v := hval
    have hA : DataW.TrodAll enc Tryz.prog W 0 (fun _ => true) true [3, 3, 22] args.toList ds ps := hA
    obtain ⟨v0, v1, v2, d0, d1, d2, p0, p1, p2, rfl, rfl, rfl, h0, h1, h2⟩ := trodAll_three hA
    obtain ⟨a, rfl, _⟩ := open_iw Tryz.underlying3 (hval 0 _ _ rfl rfl) h0
    obtain ⟨b, rfl, _⟩ := open_iw Tryz.underlying3 (hval 1 _ _ rfl rfl) h1
    obtain ⟨q, n, cap, l, rfl, hR, hn, _⟩ := open_ints (hval 2 _ _ rfl rfl) h2
    exact plays_g hF hG hR hn
theorem ks_named : Tryz.prog.funcNamed "integraph/integraphlaw09.RunPlays" = some 3 := by kernel_rfl
theorem ks_inst : Tryz.f3.isInstance Tryz.checked.prog Rows.runPlaysRow.origin Rows.runPlaysRow.targs := of_decide_eq_true (by kernel_rfl)
theorem ks_wrap : Tryz.f3.isWrapper Tryz.checked.prog Rows.runPlaysRow.wrapper Rows.runPlaysRow.mainSum := by unfold Func.isWrapper; first | (rw [if_pos (by decide +kernel)]; kernel_rfl) | (rw [if_neg (by decide +kernel)]; exact ⟨rfl, rfl⟩)
theorem runPlays_holds : Rows.RunPlaysSaid :=
  OpenClaim.holds_of_wide 3 Tryz.f3 rfl rfl rfl rfl rfl rfl rfl ⟨rfl, rfl, rfl, rfl, rfl⟩ rfl rfl rfl rfl rfl ks_named Tryz.func3 ks_closed ks_inst ks_wrap
    (fun os started H enc _ => ks_lifted os started H enc)
theorem ks_bytext : Rows.runPlaysRow.wfByText (OpenSpec.ofChange Rows.runPlaysSpec) = true := by kernel_rfl
theorem ks_wants : (Tryz.f3.params.toList.all fun u => !Tryz.prog.wantsStandIn u) = true := by kernel_rfl
theorem ks_goes : false = Rows.runPlaysRow.goesBy Tryz.checked.prog := by kernel_rfl
theorem runPlays_card_holds : Rows.RunPlaysCardSaid :=
  Claim7.holds_tied_plain_at .later [] [.data, .data, .data, .data, .sentinel, .sentinel, .pinned] true (true, "ae0898d450fd1c0dd9d3f1cbd2a28d66abb8f24060f615f480e48cd27d7cefaf") true
    runPlays_holds (fun _ h => by cases h) ks_bytext (fun _ h => by cases h) runPlays_row_tie rfl ⟨rfl, rfl⟩ pc_main rfl
    (fun f fn hf hfn => by
      obtain rfl : f = 3 := Option.some.inj (ks_named.symm.trans hf) |>.symm
      obtain rfl : fn = Tryz.f3 := (Option.some.inj (Tryz.func3.symm.trans hfn)).symm
      exact ⟨pc_looks, fun j t ht => by
        have hm : t ∈ Tryz.f3.params.toList := by simpa using Array.mem_of_getElem? ht
        exact (show Tryz.prog.wantsStandIn t = false by simpa using List.all_eq_true.1 ks_wants t hm)⟩)
    ks_goes
#print axioms runPlays_card_holds
end Go.Proofs.YtfdgciidfohhgaaGreatDoor
