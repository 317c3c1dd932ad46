/- EncloseNested: boxes within boxes have Taylor series and Taylor boxes within each other, and a good box is good from each part, at every input. -/
import Derived.Test.YtbpmnjieoncbcaaGreatDoorE1XCv
import Derived.Test.YtbpmnjieoncbcaaGreatDoorTie
set_option linter.all false
set_option maxHeartbeats 4000000
namespace Go.Proofs.YtbpmnjieoncbcaaGreatDoor
section
open Go.RowKit Go.ChangeShapes Go.WideShapes Ig
theorem QC7:Rows.encloseNestedRow.wf (OpenSpec.ofChange Rows.encloseNestedSpec)=true:=by kernel_rfl
theorem QC6:Tryz.f3.params.all (Tryz.checked.prog.readableRec ·)=true:=by kernel_rfl
theorem QC5:namedTie Tryz.checked.prog Rows.encloseNestedRow.named Rows.encloseNestedSpec.vars=true:=by kernel_rfl
theorem QC4:(Rows.encloseNestedRow.stops==[])=true:=by kernel_rfl
theorem QC3:(Tryz.checked.prog.stops==[])=true:=by kernel_rfl
theorem QC2:(Rows.encloseNestedRow.knobs==[])=true:=by kernel_rfl
theorem QC1:(Tryz.checked.prog.stopKnobs==[])=true:=by kernel_rfl
theorem QC0:(Rows.encloseNestedRow.inPlace==Tryz.checked.prog.inPlace 3)=true:=by kernel_rfl
theorem QCz:(Rows.encloseNestedRow.unfollowed==Tryz.checked.prog.unfollowed 3)=true:=by kernel_rfl
theorem QCy:(Rows.encloseNestedRow.recurses==Tryz.checked.prog.recurses 3)=true:=by kernel_rfl
theorem QBi:(Rows.encloseNestedRow.named==Tryz.checked.prog.varsNamed 3)=true:=by kernel_rfl
theorem QBh:(Rows.encloseNestedRow.maps==(Tryz.f3.params.toList++Rows.encloseNestedSpec.plain.varTypes Tryz.checked.prog).any (Tryz.checked.prog.mapsRec ·))=true:=by kernel_rfl
theorem QBg:(Rows.encloseNestedRow.ifaces==(Tryz.f3.params.toList++Rows.encloseNestedSpec.plain.varTypes Tryz.checked.prog).any (Tryz.checked.prog.ifacesRec ·))=true:=by kernel_rfl
theorem QBf:(Rows.encloseNestedRow.mapsOut==Tryz.checked.prog.mapsAmong Tryz.f3.resultTypes.toList)=true:=by kernel_rfl
theorem QBe:(Rows.encloseNestedRow.loops==(Tryz.f3.params.toList++Rows.encloseNestedSpec.plain.varTypes Tryz.checked.prog).any (Tryz.checked.prog.loopsFrom ·))=true:=by kernel_rfl
theorem QBd:(Rows.encloseNestedRow.wideKeys==(Tryz.f3.params.toList++Rows.encloseNestedSpec.plain.varTypes Tryz.checked.prog++Tryz.f3.resultTypes.toList).any (Tryz.checked.prog.wideKeysFrom ·))=true:=by kernel_rfl
theorem QBc:Rows.encloseNestedSpec.vars.all (Tryz.checked.prog.varReadable ·)=true:=by kernel_rfl
theorem QBb:(Tryz.f3.resultTypes.all (fun t=>Tryz.checked.prog.readableRec t&&decide (t<Tryz.checked.prog.types.size)))=true:=by kernel_rfl
theorem QBa:(Rows.encloseNestedRow.ifacesOut==Tryz.f3.resultTypes.toList.any (Tryz.checked.prog.ifacesRec ·))=true:=by kernel_rfl
theorem QBZ:(Rows.encloseNestedRow.loopsOut==Tryz.f3.resultTypes.toList.any (Tryz.checked.prog.loopsFrom ·))=true:=by kernel_rfl
theorem QBY:Rows.encloseNestedRow.shortTexts.isNone=true:=by kernel_rfl
theorem QBX:(Rows.encloseNestedRow.pinned==Rows.encloseNestedRow.pinnedBy)=true:=by kernel_rfl
theorem QBW:(Rows.encloseNestedRow.veiled==(Tryz.f3.params.toList++Rows.encloseNestedSpec.plain.varTypes Tryz.checked.prog++Tryz.f3.resultTypes.toList).any (Tryz.checked.prog.veiledRec ·))=true:=by kernel_rfl
theorem QBV:Rows.encloseNestedRow.veiledFits Tryz.checked.prog Tryz.f3.params.toList (Tryz.f3.params.toList++Rows.encloseNestedSpec.plain.varTypes Tryz.checked.prog++Tryz.f3.resultTypes.toList)=true:=by kernel_rfl
theorem yh:joinedFacts Tryz.checked.prog 3 Tryz.f3 Rows.encloseNestedSpec Rows.encloseNestedRow=true:=by
 unfold joinedFacts
 exact Y0 (Y0 (Y0 (Y0 (Y0 (Y0 (Y0 (Y0 (Y0 (Y0 (Y0 (Y0 (Y0 (Y0 (Y0 (Y0 (Y0 (Y0 (Y0 (Y0 (Y0 (Y0 (Y0 (Y0 (Y0 (Y0 (Y0 (Y0 (Y0 (Y0 (Y0 QC7 QCa) QCW) QC6) QC5) QC4) QC3) QC2) QC1) QC0) QCz) QCy) QBi) QBh) QBg) QBf) QBe) QBd) QBc) QBb) QBa) QBZ) QCb) QBY) cD) cE) QCZ) QCX) (by kernel_rfl)) QBX) QBW) QBV
theorem cT{H:Type}(enc:TypeId×Value→H)(os:Os):Rows.encloseNestedSpec.preB enc Tryz.checked.prog Tryz.f3 [] false ((World.doorLaid Tryz.prog 4000 os).forCall (fun _ _=>0) ⟨#[],#[.agg #[.slice none 0 0,.slice none 0 0,.slice none 0 0],.agg #[.string ⟨#[]⟩,.string ⟨#[]⟩,.slice none 0 0,.slice none 0 0,.int .i64 0,.int .i64 0],.agg #[.int .u8 0,.int .u8 0]],[]⟩).memory #[.agg #[.slice none 0 0,.slice none 0 0,.slice none 0 0],.agg #[.string ⟨#[]⟩,.string ⟨#[]⟩,.slice none 0 0,.slice none 0 0,.int .i64 0,.int .i64 0],.agg #[.int .u8 0,.int .u8 0]] 8=true:=by kernel_rfl
theorem vR{H:Type}(enc:TypeId×Value→H)(os:Os):Rows.encloseNestedSpec.sizedB enc Tryz.checked.prog Tryz.f3 false ((World.doorLaid Tryz.prog 4000 os).forCall (fun _ _=>0) ⟨#[],#[.agg #[.slice none 0 0,.slice none 0 0,.slice none 0 0],.agg #[.string ⟨#[]⟩,.string ⟨#[]⟩,.slice none 0 0,.slice none 0 0,.int .i64 0,.int .i64 0],.agg #[.int .u8 0,.int .u8 0]],[]⟩).memory #[.agg #[.slice none 0 0,.slice none 0 0,.slice none 0 0],.agg #[.string ⟨#[]⟩,.string ⟨#[]⟩,.slice none 0 0,.slice none 0 0,.int .i64 0,.int .i64 0],.agg #[.int .u8 0,.int .u8 0]] 8=true:=by kernel_rfl
theorem cU(os:Os):Input.okWideB Tryz.checked.prog ((World.doorLaid Tryz.prog 4000 os).forCall (fun _ _=>0) ⟨#[],#[.agg #[.slice none 0 0,.slice none 0 0,.slice none 0 0],.agg #[.string ⟨#[]⟩,.string ⟨#[]⟩,.slice none 0 0,.slice none 0 0,.int .i64 0,.int .i64 0],.agg #[.int .u8 0,.int .u8 0]],[]⟩) 3 ⟨#[],#[.agg #[.slice none 0 0,.slice none 0 0,.slice none 0 0],.agg #[.string ⟨#[]⟩,.string ⟨#[]⟩,.slice none 0 0,.slice none 0 0,.int .i64 0,.int .i64 0],.agg #[.int .u8 0,.int .u8 0]],[]⟩=true:=by kernel_rfl
theorem yf(os:Os):((World.doorLaid Tryz.prog 4000 os).forCall (fun _ _=>0) ⟨#[],#[.agg #[.slice none 0 0,.slice none 0 0,.slice none 0 0],.agg #[.string ⟨#[]⟩,.string ⟨#[]⟩,.slice none 0 0,.slice none 0 0,.int .i64 0,.int .i64 0],.agg #[.int .u8 0,.int .u8 0]],[]⟩).Shaped Tryz.checked.prog:=World.shaped_of_RefB (by kernel_rfl) (by kernel_rfl)
theorem cV:Tryz.prog.inits.idxOf? 3=none:=by kernel_rfl
theorem pO:(Tryz.f3.params.toList.all fun t=>Tryz.prog.readableRec t&&decide (t<Tryz.prog.types.size))=true:=by kernel_rfl
set_option maxRecDepth 100000 in
theorem yg(os:Os)(started:os.Started)(H:Type)(enc:TypeId×Value→H):
  ReturnsInHanded {} Tryz.checked os 3 .any (fun w args=>(Rows.encloseNestedSpec.pre enc Tryz.prog Tryz.f3 [] false w args∧laidMetH Tryz.prog TI w)∧sizedMet enc Tryz.prog Tryz.f3 (OpenSpec.ofChange Rows.encloseNestedSpec) false w args)
   (Rows.encloseNestedSpec.post enc Tryz.prog Tryz.f3 false true false false):=by
 refine yX os started enc Tryz.func3 cV rfl (fun ds h=>?_) rfl pO
  (ChangeSpec.witness_shaped (enc:=enc) (C:=Tryz.checked) (os:=os) (X:=fun w _=>laidMetH Tryz.prog TI w) false (World.doorLaid Tryz.prog 4000 os) #[.agg #[.slice none 0 0,.slice none 0 0,.slice none 0 0],.agg #[.string ⟨#[]⟩,.string ⟨#[]⟩,.slice none 0 0,.slice none 0 0,.int .i64 0,.int .i64 0],.agg #[.int .u8 0,.int .u8 0]] 8 rfl (yf os) (cU os) (cT enc os) (vR enc os) (cj os _)) ?_
 ·match ds,h with
  |[d1,d2,d3],_=>rfl
 ·intro W base args ds ps hval hA hF hG
  have hval:∀(j:Nat) t v,(#[26,29,30]:Array TypeId)[j]?=some t→args[j]?=some v→Value.okWide Tryz.prog W .any base t v:=hval
  have hA:DataW.TrodAll enc Tryz.prog W 0 (fun _=>true) true [26,29,30] args.toList ds ps:=hA
  obtain⟨v0,v1,v2,d0,d1,d2,p0,p1,p2,rfl,rfl,rfl,h0,h1,h2⟩:=trodAll_three hA
  obtain⟨y,rfl,hy,hl⟩:=QD8 (hval 0 _ _ rfl rfl) h0
  obtain⟨x,rfl,hx,hn⟩:=QCu (hval 1 _ _ rfl rfl) h1
  obtain⟨p,q,rfl,hp,hq⟩:=QFT (hval 2 _ _ rfl rfl) h2
  exact QEI hF hG hy hl hx hn hp hq
theorem I7:Tryz.prog.funcNamed "integraph/integraphlaw08.EncloseNested" = some 3:=by kernel_rfl
theorem pP:Tryz.f3.isInstance Tryz.checked.prog Rows.encloseNestedRow.origin Rows.encloseNestedRow.targs:=QJG (by kernel_rfl)
theorem pN:Tryz.f3.isWrapper Tryz.checked.prog Rows.encloseNestedRow.wrapper Rows.encloseNestedRow.mainSum:=by unfold Func.isWrapper;first | (rw[if_pos (by decide +kernel)];kernel_rfl) | (rw[if_neg (by decide +kernel)];exact⟨rfl,rfl⟩)
theorem encloseNested_holds:Rows.EncloseNestedSaid :=
 OpenClaim.holds_of_wide 3 Tryz.f3 rfl rfl rfl rfl rfl rfl rfl ⟨rfl,rfl,rfl,rfl,rfl⟩ rfl rfl rfl rfl rfl I7 Tryz.func3 yh pP pN
  (fun os started H enc _=>yg os started H enc)
theorem yi:Rows.encloseNestedRow.wfByText (OpenSpec.ofChange Rows.encloseNestedSpec)=true:=by kernel_rfl
theorem vQ:(Tryz.f3.params.toList.all fun u=>!Tryz.prog.wantsStandIn u)=true:=by kernel_rfl
theorem pQ:false=Rows.encloseNestedRow.goesBy Tryz.checked.prog:=by kernel_rfl
theorem encloseNested_card_holds:Rows.EncloseNestedCardSaid :=
 Claim7.holds_tied_plain_at .later [] [.data,.data,.data,.sentinel,.sentinel] true (true, "e7a47d4e8686cc4facee2a3758277f3942a66852a9ac0d33b1e3d7fea33e2a59") true
  encloseNested_holds (fun _ h=>by cases h) yi (fun _ h=>by cases h) encloseNested_row_tie rfl ⟨rfl,rfl⟩ QCY rfl
  (fun f fn hf hfn=>by
   obtain rfl:f=3:=Option.some.inj (I7.symm.trans hf) |>.symm
   obtain rfl:fn=Tryz.f3:=(Option.some.inj (Tryz.func3.symm.trans hfn)).symm
   exact⟨cC,fun j t ht=>by
    have hm:t∈Tryz.f3.params.toList:=by simpa using Array.mem_of_getElem? ht
    exact(show Tryz.prog.wantsStandIn t=false by simpa using List.all_eq_true.1 vQ t hm)⟩)
  pQ
#print axioms encloseNested_card_holds
end
end Go.Proofs.YtbpmnjieoncbcaaGreatDoor
