/- The law ExactNumbers answers true whatever its input, and leaves its input as it was; condition: the listed variables of the library hold what the program lays into them. -/
import Derived.Test.YtknegjaeoffnbaaGreatDoorP5
import Derived.Test.YtknegjaeoffnbaaGreatDoorTie
set_option linter.all false
namespace Go.Proofs.YtknegjaeoffnbaaGreatDoor
section
open Go.RowKit Go.ChangeShapes Go.WideShapes Ig
theorem FE:Rows.exactNumbersRow.wf (OpenSpec.ofChange Rows.exactNumbersSpec)=true:=by kernel_rfl
theorem FD:Tryz.f12.params.all (Tryz.checked.prog.readableRec ·)=true:=by kernel_rfl
theorem FC:namedTie Tryz.checked.prog Rows.exactNumbersRow.named Rows.exactNumbersSpec.vars=true:=by kernel_rfl
theorem FB:(Rows.exactNumbersRow.stops==[])=true:=by kernel_rfl
theorem FA:(Tryz.checked.prog.stops==[])=true:=by kernel_rfl
theorem A9:(Rows.exactNumbersRow.knobs==[])=true:=by kernel_rfl
theorem A8:(Tryz.checked.prog.stopKnobs==[])=true:=by kernel_rfl
theorem A7:(Rows.exactNumbersRow.inPlace==Tryz.checked.prog.inPlace 12)=true:=by kernel_rfl
theorem A6:(Rows.exactNumbersRow.unfollowed==Tryz.checked.prog.unfollowed 12)=true:=by kernel_rfl
theorem A5:(Rows.exactNumbersRow.recurses==Tryz.checked.prog.recurses 12)=true:=by kernel_rfl
theorem UY:(Rows.exactNumbersRow.named==Tryz.checked.prog.varsNamed 12)=true:=by kernel_rfl
theorem UX:(Rows.exactNumbersRow.maps==(Tryz.f12.params.toList++Rows.exactNumbersSpec.plain.varTypes Tryz.checked.prog).any (Tryz.checked.prog.mapsRec ·))=true:=by kernel_rfl
theorem UW:(Rows.exactNumbersRow.ifaces==(Tryz.f12.params.toList++Rows.exactNumbersSpec.plain.varTypes Tryz.checked.prog).any (Tryz.checked.prog.ifacesRec ·))=true:=by kernel_rfl
theorem UU:(Rows.exactNumbersRow.mapsOut==Tryz.checked.prog.mapsAmong Tryz.f12.resultTypes.toList)=true:=by kernel_rfl
theorem UT:(Rows.exactNumbersRow.loops==(Tryz.f12.params.toList++Rows.exactNumbersSpec.plain.varTypes Tryz.checked.prog).any (Tryz.checked.prog.loopsFrom ·))=true:=by kernel_rfl
theorem US:(Rows.exactNumbersRow.wideKeys==(Tryz.f12.params.toList++Rows.exactNumbersSpec.plain.varTypes Tryz.checked.prog++Tryz.f12.resultTypes.toList).any (Tryz.checked.prog.wideKeysFrom ·))=true:=by kernel_rfl
theorem UR:Rows.exactNumbersSpec.vars.all (Tryz.checked.prog.varReadable ·)=true:=by kernel_rfl
theorem UQ:(Tryz.f12.resultTypes.all (fun t=>Tryz.checked.prog.readableRec t&&decide (t<Tryz.checked.prog.types.size)))=true:=by kernel_rfl
theorem UP:(Rows.exactNumbersRow.ifacesOut==Tryz.f12.resultTypes.toList.any (Tryz.checked.prog.ifacesRec ·))=true:=by kernel_rfl
theorem UO:(Rows.exactNumbersRow.loopsOut==Tryz.f12.resultTypes.toList.any (Tryz.checked.prog.loopsFrom ·))=true:=by kernel_rfl
theorem UN:Rows.exactNumbersRow.shortTexts.isNone=true:=by kernel_rfl
theorem UM:(Rows.exactNumbersRow.pinned==Rows.exactNumbersRow.pinnedBy)=true:=by kernel_rfl
theorem UL:(Rows.exactNumbersRow.veiled==(Tryz.f12.params.toList++Rows.exactNumbersSpec.plain.varTypes Tryz.checked.prog++Tryz.f12.resultTypes.toList).any (Tryz.checked.prog.veiledRec ·))=true:=by kernel_rfl
theorem UK:Rows.exactNumbersRow.veiledFits Tryz.checked.prog Tryz.f12.params.toList (Tryz.f12.params.toList++Rows.exactNumbersSpec.plain.varTypes Tryz.checked.prog++Tryz.f12.resultTypes.toList)=true:=by kernel_rfl
theorem El:joinedFacts Tryz.checked.prog 12 Tryz.f12 Rows.exactNumbersSpec Rows.exactNumbersRow=true:=by
 unfold joinedFacts
 exact XF (XF (XF (XF (XF (XF (XF (XF (XF (XF (XF (XF (XF (XF (XF (XF (XF (XF (XF (XF (XF (XF (XF (XF (XF (XF (XF (XF (XF (XF (XF FE jG) jC) FD) FC) FB) FA) A9) A8) A7) A6) A5) UY) UX) UW) UU) UT) US) UR) UQ) UP) UO) jH) UN) CQ) CR) jF) jD) (by kernel_rfl)) UM) UL) UK
theorem SK {H:Type} (enc:TypeId×Value→H) (os:Os):Rows.exactNumbersSpec.preB enc Tryz.checked.prog Tryz.f12 [] false ((World.doorLaid Tryz.prog 4000 os).forCall (fun _ _=>0) ⟨#[],#[.string ⟨#[]⟩,.string ⟨#[]⟩],[]⟩).memory #[.string ⟨#[]⟩,.string ⟨#[]⟩] 8=true:=by kernel_rfl
theorem Nc {H:Type} (enc:TypeId×Value→H) (os:Os):Rows.exactNumbersSpec.sizedB enc Tryz.checked.prog Tryz.f12 false ((World.doorLaid Tryz.prog 4000 os).forCall (fun _ _=>0) ⟨#[],#[.string ⟨#[]⟩,.string ⟨#[]⟩],[]⟩).memory #[.string ⟨#[]⟩,.string ⟨#[]⟩] 8=true:=by kernel_rfl
theorem SM (os:Os):Input.okWideB Tryz.checked.prog ((World.doorLaid Tryz.prog 4000 os).forCall (fun _ _=>0) ⟨#[],#[.string ⟨#[]⟩,.string ⟨#[]⟩],[]⟩) 12 ⟨#[],#[.string ⟨#[]⟩,.string ⟨#[]⟩],[]⟩=true:=by kernel_rfl
theorem Ej (os:Os):((World.doorLaid Tryz.prog 4000 os).forCall (fun _ _=>0) ⟨#[],#[.string ⟨#[]⟩,.string ⟨#[]⟩],[]⟩).Shaped Tryz.checked.prog:=World.shaped_of_RefB (by kernel_rfl) (by kernel_rfl)
theorem SN:Tryz.prog.inits.idxOf? 12=none:=by kernel_rfl
theorem PQ:(Tryz.f12.params.toList.all fun t=>Tryz.prog.readableRec t&&decide (t<Tryz.prog.types.size))=true:=by kernel_rfl
set_option maxRecDepth 100000 in
theorem Ek (os:Os) (started:os.Started) (H:Type) (enc:TypeId×Value→H) :
  ReturnsInHanded {} Tryz.checked os 12 .any (fun w args=>(Rows.exactNumbersSpec.pre enc Tryz.prog Tryz.f12 [] false w args∧laidMetH Tryz.prog NW w)∧sizedMet enc Tryz.prog Tryz.f12 (OpenSpec.ofChange Rows.exactNumbersSpec) false w args)
   (Rows.exactNumbersSpec.post enc Tryz.prog Tryz.f12 false true false false):=by
 refine A4 os started enc Tryz.func12 SN rfl (fun ds h=>?_) rfl PQ
  (ChangeSpec.witness_shaped (enc:=enc) (C:=Tryz.checked) (os:=os) (X:=fun w _=>laidMetH Tryz.prog NW w) false (World.doorLaid Tryz.prog 4000 os) #[.string ⟨#[]⟩,.string ⟨#[]⟩] 8 rfl (Ej os) (SM os) (SK enc os) (Nc enc os) (C7 os _)) ?_
 ·match ds,h with
  |[d1,d2],_=>rfl
 ·intro W base args ds ps hval hA hF hG
  have hval:∀ (j:Nat) t v,(#[22,22]:Array TypeId)[j]?=some t→args[j]?=some v→Value.okWide Tryz.prog W .any base t v:=hval
  have hA:DataW.TrodAll enc Tryz.prog W 0 (fun _=>true) true [22,22] args.toList ds ps:=hA
  obtain ⟨v0,v1,d0,d1,p0,p1,rfl,rfl,rfl,h0,h1⟩:=trodAll_two hA
  obtain ⟨a,rfl⟩:=Tq xU (hval 0 _ _ rfl rfl) h0
  obtain ⟨b,rfl⟩:=Tq xU (hval 1 _ _ rfl rfl) h1
  exact LK hF hG
theorem GJ:Tryz.prog.funcNamed "integraph/integraphlaw01.ExactNumbers" = some 12:=by kernel_rfl
theorem PR:Tryz.f12.isInstance Tryz.checked.prog Rows.exactNumbersRow.origin Rows.exactNumbersRow.targs:=of_decide_eq_true (by kernel_rfl)
theorem PO:Tryz.f12.isWrapper Tryz.checked.prog Rows.exactNumbersRow.wrapper Rows.exactNumbersRow.mainSum:=by unfold Func.isWrapper;first | (rw [if_pos (by decide +kernel)];kernel_rfl) | (rw [if_neg (by decide +kernel)];exact⟨rfl,rfl⟩)
theorem exactNumbers_holds:Rows.ExactNumbersSaid :=
 OpenClaim.holds_of_wide 12 Tryz.f12 rfl rfl rfl rfl rfl rfl rfl ⟨rfl,rfl,rfl,rfl,rfl⟩ rfl rfl rfl rfl rfl GJ Tryz.func12 El PR PO
  (fun os started H enc _=>Ek os started H enc)
theorem Em:Rows.exactNumbersRow.wfByText (OpenSpec.ofChange Rows.exactNumbersSpec)=true:=by kernel_rfl
theorem Nb:(Tryz.f12.params.toList.all fun u=>!Tryz.prog.wantsStandIn u)=true:=by kernel_rfl
theorem PS:false=Rows.exactNumbersRow.goesBy Tryz.checked.prog:=by kernel_rfl
theorem exactNumbers_card_holds:Rows.ExactNumbersCardSaid :=
 Claim7.holds_tied_plain_at .later [] [.data,.data,.data,.sentinel,.sentinel] true (true, "0bd04a9777c06c4babd2615d738c4370e7ee42132e89b6db1518d6fd8816c7a6") true
  exactNumbers_holds (fun _ h=>by cases h) Em (fun _ h=>by cases h) exactNumbers_row_tie rfl ⟨rfl,rfl⟩ jE rfl
  (fun f fn hf hfn=>by
   obtain rfl:f=12:=Option.some.inj (GJ.symm.trans hf) |>.symm
   obtain rfl:fn=Tryz.f12:=(Option.some.inj (Tryz.func12.symm.trans hfn)).symm
   exact⟨CP,fun j t ht=>by
    have hm:t∈Tryz.f12.params.toList:=by simpa using Array.mem_of_getElem? ht
    exact(show Tryz.prog.wantsStandIn t=false by simpa using List.all_eq_true.1 Nb t hm)⟩)
  PS
#print axioms exactNumbers_card_holds
end
end Go.Proofs.YtknegjaeoffnbaaGreatDoor
