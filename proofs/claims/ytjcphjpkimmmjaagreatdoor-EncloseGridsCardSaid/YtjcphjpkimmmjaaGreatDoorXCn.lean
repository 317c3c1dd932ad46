/- t -/
import Derived.Test.YtjcphjpkimmmjaaGreatDoorE0XCn
import Derived.Test.YtjcphjpkimmmjaaGreatDoorTie
set_option linter.all false
set_option maxHeartbeats 4000000
namespace Go.Proofs.YtjcphjpkimmmjaaGreatDoor
section
open Go.RowKit Go.ChangeShapes Go.WideShapes Ig
theorem QEf:Rows.encloseGridsRow.wf (OpenSpec.ofChange Rows.encloseGridsSpec)=true:=by kernel_rfl
theorem QEe:Tryz.f3.params.all (Tryz.checked.prog.readableRec ·)=true:=by kernel_rfl
theorem QEd:namedTie Tryz.checked.prog Rows.encloseGridsRow.named Rows.encloseGridsSpec.vars=true:=by kernel_rfl
theorem QEc:(Rows.encloseGridsRow.stops==[])=true:=by kernel_rfl
theorem QEb:(Tryz.checked.prog.stops==[])=true:=by kernel_rfl
theorem QEa:(Rows.encloseGridsRow.knobs==[])=true:=by kernel_rfl
theorem QEZ:(Tryz.checked.prog.stopKnobs==[])=true:=by kernel_rfl
theorem QEY:(Rows.encloseGridsRow.inPlace==Tryz.checked.prog.inPlace 3)=true:=by kernel_rfl
theorem QEX:(Rows.encloseGridsRow.unfollowed==Tryz.checked.prog.unfollowed 3)=true:=by kernel_rfl
theorem QEW:(Rows.encloseGridsRow.recurses==Tryz.checked.prog.recurses 3)=true:=by kernel_rfl
theorem QDH:(Rows.encloseGridsRow.named==Tryz.checked.prog.varsNamed 3)=true:=by kernel_rfl
theorem QDG:(Rows.encloseGridsRow.maps==(Tryz.f3.params.toList++Rows.encloseGridsSpec.plain.varTypes Tryz.checked.prog).any (Tryz.checked.prog.mapsRec ·))=true:=by kernel_rfl
theorem QDF:(Rows.encloseGridsRow.ifaces==(Tryz.f3.params.toList++Rows.encloseGridsSpec.plain.varTypes Tryz.checked.prog).any (Tryz.checked.prog.ifacesRec ·))=true:=by kernel_rfl
theorem QDE:(Rows.encloseGridsRow.mapsOut==Tryz.checked.prog.mapsAmong Tryz.f3.resultTypes.toList)=true:=by kernel_rfl
theorem QDD:(Rows.encloseGridsRow.loops==(Tryz.f3.params.toList++Rows.encloseGridsSpec.plain.varTypes Tryz.checked.prog).any (Tryz.checked.prog.loopsFrom ·))=true:=by kernel_rfl
theorem QDC:(Rows.encloseGridsRow.wideKeys==(Tryz.f3.params.toList++Rows.encloseGridsSpec.plain.varTypes Tryz.checked.prog++Tryz.f3.resultTypes.toList).any (Tryz.checked.prog.wideKeysFrom ·))=true:=by kernel_rfl
theorem QDB:Rows.encloseGridsSpec.vars.all (Tryz.checked.prog.varReadable ·)=true:=by kernel_rfl
theorem QDA:(Tryz.f3.resultTypes.all (fun t=>Tryz.checked.prog.readableRec t&&decide (t<Tryz.checked.prog.types.size)))=true:=by kernel_rfl
theorem QC9:(Rows.encloseGridsRow.ifacesOut==Tryz.f3.resultTypes.toList.any (Tryz.checked.prog.ifacesRec ·))=true:=by kernel_rfl
theorem QC8:(Rows.encloseGridsRow.loopsOut==Tryz.f3.resultTypes.toList.any (Tryz.checked.prog.loopsFrom ·))=true:=by kernel_rfl
theorem QC7:Rows.encloseGridsRow.shortTexts.isNone=true:=by kernel_rfl
theorem QC6:(Rows.encloseGridsRow.pinned==Rows.encloseGridsRow.pinnedBy)=true:=by kernel_rfl
theorem QC5:(Rows.encloseGridsRow.veiled==(Tryz.f3.params.toList++Rows.encloseGridsSpec.plain.varTypes Tryz.checked.prog++Tryz.f3.resultTypes.toList).any (Tryz.checked.prog.veiledRec ·))=true:=by kernel_rfl
theorem QC4:Rows.encloseGridsRow.veiledFits Tryz.checked.prog Tryz.f3.params.toList (Tryz.f3.params.toList++Rows.encloseGridsSpec.plain.varTypes Tryz.checked.prog++Tryz.f3.resultTypes.toList)=true:=by kernel_rfl
theorem dD:joinedFacts Tryz.checked.prog 3 Tryz.f3 Rows.encloseGridsSpec Rows.encloseGridsRow=true:=by
 unfold joinedFacts
 exact KO (KO (KO (KO (KO (KO (KO (KO (KO (KO (KO (KO (KO (KO (KO (KO (KO (KO (KO (KO (KO (KO (KO (KO (KO (KO (KO (KO (KO (KO (KO QEf QCi) QCe) QEe) QEd) QEc) QEb) QEa) QEZ) QEY) QEX) QEW) QDH) QDG) QDF) QDE) QDD) QDC) QDB) QDA) QC9) QC8) QCj) QC7) QAI) QAJ) QCh) QCf) (by kernel_rfl)) QC6) QC5) QC4
theorem QBy{H:Type}(enc:TypeId×Value→H)(os:Os):Rows.encloseGridsSpec.preB enc Tryz.checked.prog Tryz.f3 [] false ((World.doorLaid Tryz.prog 4000 os).forCall (fun _ _=>0) ⟨#[],#[.string ⟨#[]⟩,.int .i64 0],[]⟩).memory #[.string ⟨#[]⟩,.int .i64 0] 8=true:=by kernel_rfl
theorem uL{H:Type}(enc:TypeId×Value→H)(os:Os):Rows.encloseGridsSpec.sizedB enc Tryz.checked.prog Tryz.f3 false ((World.doorLaid Tryz.prog 4000 os).forCall (fun _ _=>0) ⟨#[],#[.string ⟨#[]⟩,.int .i64 0],[]⟩).memory #[.string ⟨#[]⟩,.int .i64 0] 8=true:=by kernel_rfl
theorem QBz(os:Os):Input.okWideB Tryz.checked.prog ((World.doorLaid Tryz.prog 4000 os).forCall (fun _ _=>0) ⟨#[],#[.string ⟨#[]⟩,.int .i64 0],[]⟩) 3 ⟨#[],#[.string ⟨#[]⟩,.int .i64 0],[]⟩=true:=by kernel_rfl
theorem dA(os:Os):((World.doorLaid Tryz.prog 4000 os).forCall (fun _ _=>0) ⟨#[],#[.string ⟨#[]⟩,.int .i64 0],[]⟩).Shaped Tryz.checked.prog:=World.shaped_of_RefB (by kernel_rfl) (by kernel_rfl)
theorem QB0:Tryz.prog.inits.idxOf? 3=none:=by kernel_rfl
theorem QAW:(Tryz.f3.params.toList.all fun t=>Tryz.prog.readableRec t&&decide (t<Tryz.prog.types.size))=true:=by kernel_rfl
set_option maxRecDepth 100000 in
theorem dC(os:Os)(started:os.Started)(H:Type)(enc:TypeId×Value→H):
  ReturnsInHanded {} Tryz.checked os 3 .any (fun w args=>(Rows.encloseGridsSpec.pre enc Tryz.prog Tryz.f3 [] false w args∧laidMetH Tryz.prog UB w)∧sizedMet enc Tryz.prog Tryz.f3 (OpenSpec.ofChange Rows.encloseGridsSpec) false w args)
   (Rows.encloseGridsSpec.post enc Tryz.prog Tryz.f3 false true false false):=by
 refine kh os started enc Tryz.func3 QB0 rfl (fun ds h=>?_) rfl QAW
  (ChangeSpec.witness_shaped (enc:=enc) (C:=Tryz.checked) (os:=os) (X:=fun w _=>laidMetH Tryz.prog UB w) false (World.doorLaid Tryz.prog 4000 os) #[.string ⟨#[]⟩,.int .i64 0] 8 rfl (dA os) (QBz os) (QBy enc os) (uL enc os) (QAe os _)) ?_
 ·match ds,h with
  |[d1,d2],_=>rfl
 ·intro W base args ds ps hval hA hF hG
  have hval:∀(j:Nat) t v,(#[22,3]:Array TypeId)[j]?=some t→args[j]?=some v→Value.okWide Tryz.prog W .any base t v:=hval
  have hA:DataW.TrodAll enc Tryz.prog W 0 (fun _=>true) true [22,3] args.toList ds ps:=hA
  obtain⟨v0,v1,d0,d1,p0,p1,rfl,rfl,rfl,h0,h1⟩:=trodAll_two hA
  obtain⟨s,rfl,hs⟩:=QCz QFv (hval 0 _ _ rfl rfl) h0
  obtain⟨n,rfl,hn⟩:=QEE QFw (hval 1 _ _ rfl rfl) h1
  exact QFe hF hG hs hn
theorem qL:Tryz.prog.funcNamed "integraph/integraphlaw08.EncloseGrids" = some 3:=by kernel_rfl
theorem QAX:Tryz.f3.isInstance Tryz.checked.prog Rows.encloseGridsRow.origin Rows.encloseGridsRow.targs:=wM (by kernel_rfl)
theorem QAV:Tryz.f3.isWrapper Tryz.checked.prog Rows.encloseGridsRow.wrapper Rows.encloseGridsRow.mainSum:=by unfold Func.isWrapper;first | (rw[if_pos (by decide +kernel)];kernel_rfl) | (rw[if_neg (by decide +kernel)];exact⟨rfl,rfl⟩)
theorem encloseGrids_holds:Rows.EncloseGridsSaid :=
 OpenClaim.holds_of_wide 3 Tryz.f3 rfl rfl rfl rfl rfl rfl rfl ⟨rfl,rfl,rfl,rfl,rfl⟩ rfl rfl rfl rfl rfl qL Tryz.func3 dD QAX QAV
  (fun os started H enc _=>dC os started H enc)
theorem dE:Rows.encloseGridsRow.wfByText (OpenSpec.ofChange Rows.encloseGridsSpec)=true:=by kernel_rfl
theorem uK:(Tryz.f3.params.toList.all fun u=>!Tryz.prog.wantsStandIn u)=true:=by kernel_rfl
theorem QAY:false=Rows.encloseGridsRow.goesBy Tryz.checked.prog:=by kernel_rfl
theorem encloseGrids_card_holds:Rows.EncloseGridsCardSaid :=
 Claim7.holds_tied_plain_at .later [] [.data,.data,.data,.sentinel,.sentinel] true (true, "cf78c4e6c1ac7b9d94aed50302f1e7380b4c017140f2ae4993d9de171b50ee1d") true
  encloseGrids_holds (fun _ h=>by cases h) dE (fun _ h=>by cases h) encloseGrids_row_tie rfl ⟨rfl,rfl⟩ QCg rfl
  (fun f fn hf hfn=>by
   obtain rfl:f=3:=Option.some.inj (qL.symm.trans hf) |>.symm
   obtain rfl:fn=Tryz.f3:=(Option.some.inj (Tryz.func3.symm.trans hfn)).symm
   exact⟨QAH,fun j t ht=>by
    have hm:t∈Tryz.f3.params.toList:=by simpa using Array.mem_of_getElem? ht
    exact(show Tryz.prog.wantsStandIn t=false by simpa using List.all_eq_true.1 uK t hm)⟩)
  QAY
#print axioms encloseGrids_card_holds
end
end Go.Proofs.YtjcphjpkimmmjaaGreatDoor
