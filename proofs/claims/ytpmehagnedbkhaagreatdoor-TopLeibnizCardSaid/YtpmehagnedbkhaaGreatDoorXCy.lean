/- TopLeibniz -/
import Derived.Test.YtpmehagnedbkhaaGreatDoorE1XCy
import Derived.Test.YtpmehagnedbkhaaGreatDoorTie
set_option linter.all false
set_option maxHeartbeats 4000000
namespace Go.Proofs.YtpmehagnedbkhaaGreatDoor
section
open Go.RowKit Go.ChangeShapes Go.WideShapes Ig
theorem QEy:Rows.topLeibnizRow.wf (OpenSpec.ofChange Rows.topLeibnizSpec)=true:=by kernel_rfl
theorem QEx:Tryz.f3.params.all (Tryz.checked.prog.readableRec ·)=true:=by kernel_rfl
theorem QEw:namedTie Tryz.checked.prog Rows.topLeibnizRow.named Rows.topLeibnizSpec.vars=true:=by kernel_rfl
theorem QEv:(Rows.topLeibnizRow.stops==[])=true:=by kernel_rfl
theorem QEu:(Tryz.checked.prog.stops==[])=true:=by kernel_rfl
theorem QEt:(Rows.topLeibnizRow.knobs==[])=true:=by kernel_rfl
theorem QEs:(Tryz.checked.prog.stopKnobs==[])=true:=by kernel_rfl
theorem QEr:(Rows.topLeibnizRow.inPlace==Tryz.checked.prog.inPlace 3)=true:=by kernel_rfl
theorem QEq:(Rows.topLeibnizRow.unfollowed==Tryz.checked.prog.unfollowed 3)=true:=by kernel_rfl
theorem QEp:(Rows.topLeibnizRow.recurses==Tryz.checked.prog.recurses 3)=true:=by kernel_rfl
theorem QDO:(Rows.topLeibnizRow.named==Tryz.checked.prog.varsNamed 3)=true:=by kernel_rfl
theorem QDN:(Rows.topLeibnizRow.maps==(Tryz.f3.params.toList++Rows.topLeibnizSpec.plain.varTypes Tryz.checked.prog).any (Tryz.checked.prog.mapsRec ·))=true:=by kernel_rfl
theorem QDM:(Rows.topLeibnizRow.ifaces==(Tryz.f3.params.toList++Rows.topLeibnizSpec.plain.varTypes Tryz.checked.prog).any (Tryz.checked.prog.ifacesRec ·))=true:=by kernel_rfl
theorem QDL:(Rows.topLeibnizRow.mapsOut==Tryz.checked.prog.mapsAmong Tryz.f3.resultTypes.toList)=true:=by kernel_rfl
theorem QDK:(Rows.topLeibnizRow.loops==(Tryz.f3.params.toList++Rows.topLeibnizSpec.plain.varTypes Tryz.checked.prog).any (Tryz.checked.prog.loopsFrom ·))=true:=by kernel_rfl
theorem QDJ:(Rows.topLeibnizRow.wideKeys==(Tryz.f3.params.toList++Rows.topLeibnizSpec.plain.varTypes Tryz.checked.prog++Tryz.f3.resultTypes.toList).any (Tryz.checked.prog.wideKeysFrom ·))=true:=by kernel_rfl
theorem QDI:Rows.topLeibnizSpec.vars.all (Tryz.checked.prog.varReadable ·)=true:=by kernel_rfl
theorem QDH:(Tryz.f3.resultTypes.all (fun t=>Tryz.checked.prog.readableRec t&&decide (t<Tryz.checked.prog.types.size)))=true:=by kernel_rfl
theorem QDG:(Rows.topLeibnizRow.ifacesOut==Tryz.f3.resultTypes.toList.any (Tryz.checked.prog.ifacesRec ·))=true:=by kernel_rfl
theorem QDF:(Rows.topLeibnizRow.loopsOut==Tryz.f3.resultTypes.toList.any (Tryz.checked.prog.loopsFrom ·))=true:=by kernel_rfl
theorem QDE:Rows.topLeibnizRow.shortTexts.isNone=true:=by kernel_rfl
theorem QDD:(Rows.topLeibnizRow.pinned==Rows.topLeibnizRow.pinnedBy)=true:=by kernel_rfl
theorem QDC:(Rows.topLeibnizRow.veiled==(Tryz.f3.params.toList++Rows.topLeibnizSpec.plain.varTypes Tryz.checked.prog++Tryz.f3.resultTypes.toList).any (Tryz.checked.prog.veiledRec ·))=true:=by kernel_rfl
theorem QDB:Rows.topLeibnizRow.veiledFits Tryz.checked.prog Tryz.f3.params.toList (Tryz.f3.params.toList++Rows.topLeibnizSpec.plain.varTypes Tryz.checked.prog++Tryz.f3.resultTypes.toList)=true:=by kernel_rfl
theorem gz:joinedFacts Tryz.checked.prog 3 Tryz.f3 Rows.topLeibnizSpec Rows.topLeibnizRow=true:=by
 unfold joinedFacts
 exact YV (YV (YV (YV (YV (YV (YV (YV (YV (YV (YV (YV (YV (YV (YV (YV (YV (YV (YV (YV (YV (YV (YV (YV (YV (YV (YV (YV (YV (YV (YV QEy cP) cL) QEx) QEw) QEv) QEu) QEt) QEs) QEr) QEq) QEp) QDO) QDN) QDM) QDL) QDK) QDJ) QDI) QDH) QDG) QDF) cQ) QDE) gS) gT) cO) cM) (by kernel_rfl)) QDD) QDC) QDB
theorem QBY{H:Type}(enc:TypeId×Value→H)(os:Os):Rows.topLeibnizSpec.preB enc Tryz.checked.prog Tryz.f3 [] false ((World.doorLaid Tryz.prog 4000 os).forCall (fun _ _=>0) ⟨#[],#[.agg #[.slice none 0 0,.slice none 0 0,.slice none 0 0],.slice none 0 0,.slice none 0 0],[]⟩).memory #[.agg #[.slice none 0 0,.slice none 0 0,.slice none 0 0],.slice none 0 0,.slice none 0 0] 8=true:=by kernel_rfl
theorem uN{H:Type}(enc:TypeId×Value→H)(os:Os):Rows.topLeibnizSpec.sizedB enc Tryz.checked.prog Tryz.f3 false ((World.doorLaid Tryz.prog 4000 os).forCall (fun _ _=>0) ⟨#[],#[.agg #[.slice none 0 0,.slice none 0 0,.slice none 0 0],.slice none 0 0,.slice none 0 0],[]⟩).memory #[.agg #[.slice none 0 0,.slice none 0 0,.slice none 0 0],.slice none 0 0,.slice none 0 0] 8=true:=by kernel_rfl
theorem QBZ(os:Os):Input.okWideB Tryz.checked.prog ((World.doorLaid Tryz.prog 4000 os).forCall (fun _ _=>0) ⟨#[],#[.agg #[.slice none 0 0,.slice none 0 0,.slice none 0 0],.slice none 0 0,.slice none 0 0],[]⟩) 3 ⟨#[],#[.agg #[.slice none 0 0,.slice none 0 0,.slice none 0 0],.slice none 0 0,.slice none 0 0],[]⟩=true:=by kernel_rfl
theorem gq(os:Os):((World.doorLaid Tryz.prog 4000 os).forCall (fun _ _=>0) ⟨#[],#[.agg #[.slice none 0 0,.slice none 0 0,.slice none 0 0],.slice none 0 0,.slice none 0 0],[]⟩).Shaped Tryz.checked.prog:=World.shaped_of_RefB (by kernel_rfl) (by kernel_rfl)
theorem QBa:Tryz.prog.inits.idxOf? 3=none:=by kernel_rfl
theorem QAS:(Tryz.f3.params.toList.all fun t=>Tryz.prog.readableRec t&&decide (t<Tryz.prog.types.size))=true:=by kernel_rfl
set_option maxRecDepth 100000 in
theorem gv(os:Os)(started:os.Started)(H:Type)(enc:TypeId×Value→H):
  ReturnsInHanded {} Tryz.checked os 3 .any (fun w args=>(Rows.topLeibnizSpec.pre enc Tryz.prog Tryz.f3 [] false w args∧laidMetH Tryz.prog SQ w)∧sizedMet enc Tryz.prog Tryz.f3 (OpenSpec.ofChange Rows.topLeibnizSpec) false w args)
   (Rows.topLeibnizSpec.post enc Tryz.prog Tryz.f3 false true false false):=by
 refine j8 os started enc Tryz.func3 QBa rfl (fun ds h=>?_) rfl QAS
  (ChangeSpec.witness_shaped (enc:=enc) (C:=Tryz.checked) (os:=os) (X:=fun w _=>laidMetH Tryz.prog SQ w) false (World.doorLaid Tryz.prog 4000 os) #[.agg #[.slice none 0 0,.slice none 0 0,.slice none 0 0],.slice none 0 0,.slice none 0 0] 8 rfl (gq os) (QBZ os) (QBY enc os) (uN enc os) (dK os _)) ?_
 ·match ds,h with
  |[d1,d2,d3],_=>rfl
 ·intro W base args ds ps hval hA hF hG
  have hval:∀(j:Nat) t v,(#[26,28,28]:Array TypeId)[j]?=some t→args[j]?=some v→Value.okWide Tryz.prog W .any base t v:=hval
  have hA:DataW.TrodAll enc Tryz.prog W 0 (fun _=>true) true [26,28,28] args.toList ds ps:=hA
  obtain⟨v0,v1,v2,d0,d1,d2,p0,p1,p2,rfl,rfl,rfl,h0,h1,h2⟩:=trodAll_three hA
  obtain⟨y,rfl,hy,hu,hn⟩:=QAK (hval 0 _ _ rfl rfl) h0
  obtain⟨a,rfl,ha⟩:=je (hval 1 _ _ rfl rfl) h1
  obtain⟨b,rfl,hb⟩:=je (hval 2 _ _ rfl rfl) h2
  exact QAQ hF hG hy hu hn ha hb
theorem j9:Tryz.prog.funcNamed "integraph/integraphtop.TopLeibniz" = some 3:=by kernel_rfl
theorem QAT:Tryz.f3.isInstance Tryz.checked.prog Rows.topLeibnizRow.origin Rows.topLeibnizRow.targs:=QGx (by kernel_rfl)
theorem QAR:Tryz.f3.isWrapper Tryz.checked.prog Rows.topLeibnizRow.wrapper Rows.topLeibnizRow.mainSum:=by unfold Func.isWrapper;first | (rw[if_pos (by decide +kernel)];kernel_rfl) | (rw[if_neg (by decide +kernel)];exact⟨rfl,rfl⟩)
theorem topLeibniz_holds:Rows.TopLeibnizSaid :=
 OpenClaim.holds_of_wide 3 Tryz.f3 rfl rfl rfl rfl rfl rfl rfl ⟨rfl,rfl,rfl,rfl,rfl⟩ rfl rfl rfl rfl rfl j9 Tryz.func3 gz QAT QAR
  (fun os started H enc _=>gv os started H enc)
theorem dA:Rows.topLeibnizRow.wfByText (OpenSpec.ofChange Rows.topLeibnizSpec)=true:=by kernel_rfl
theorem uM:(Tryz.f3.params.toList.all fun u=>!Tryz.prog.wantsStandIn u)=true:=by kernel_rfl
theorem QAU:false=Rows.topLeibnizRow.goesBy Tryz.checked.prog:=by kernel_rfl
theorem topLeibniz_card_holds:Rows.TopLeibnizCardSaid :=
 Claim7.holds_tied_plain_at .later [] [.data,.data,.data,.sentinel,.sentinel] true (true, "56559adeb064e839cf8b3946cef90c03fa4af672f842f0aaf67bd355a96889d2") true
  topLeibniz_holds (fun _ h=>by cases h) dA (fun _ h=>by cases h) topLeibniz_row_tie rfl ⟨rfl,rfl⟩ cN rfl
  (fun f fn hf hfn=>by
   obtain rfl:f=3:=Option.some.inj (j9.symm.trans hf) |>.symm
   obtain rfl:fn=Tryz.f3:=(Option.some.inj (Tryz.func3.symm.trans hfn)).symm
   exact⟨gR,fun j t ht=>by
    have hm:t∈Tryz.f3.params.toList:=by simpa using Array.mem_of_getElem? ht
    exact(show Tryz.prog.wantsStandIn t=false by simpa using List.all_eq_true.1 uM t hm)⟩)
  QAU
#print axioms topLeibniz_card_holds
end
end Go.Proofs.YtpmehagnedbkhaaGreatDoor
