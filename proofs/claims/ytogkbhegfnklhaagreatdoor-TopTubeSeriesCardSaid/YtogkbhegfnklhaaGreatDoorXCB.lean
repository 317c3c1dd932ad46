/- The series of tubes at their starts. -/
import Derived.Test.YtogkbhegfnklhaaGreatDoorE1XCB
import Derived.Test.YtogkbhegfnklhaaGreatDoorTie
set_option linter.all false
set_option maxHeartbeats 4000000
namespace Go.Proofs.YtogkbhegfnklhaaGreatDoor
section
open Go.RowKit Go.ChangeShapes Go.WideShapes Ig
theorem QEI:Rows.topTubeSeriesRow.wf (OpenSpec.ofChange Rows.topTubeSeriesSpec)=true:=by kernel_rfl
theorem QEH:Tryz.f3.params.all (Tryz.checked.prog.readableRec ·)=true:=by kernel_rfl
theorem QEG:namedTie Tryz.checked.prog Rows.topTubeSeriesRow.named Rows.topTubeSeriesSpec.vars=true:=by kernel_rfl
theorem QEF:(Rows.topTubeSeriesRow.stops==[])=true:=by kernel_rfl
theorem QEE:(Tryz.checked.prog.stops==[])=true:=by kernel_rfl
theorem QED:(Rows.topTubeSeriesRow.knobs==[])=true:=by kernel_rfl
theorem QEC:(Tryz.checked.prog.stopKnobs==[])=true:=by kernel_rfl
theorem QEB:(Rows.topTubeSeriesRow.inPlace==Tryz.checked.prog.inPlace 3)=true:=by kernel_rfl
theorem QEA:(Rows.topTubeSeriesRow.unfollowed==Tryz.checked.prog.unfollowed 3)=true:=by kernel_rfl
theorem QD9:(Rows.topTubeSeriesRow.recurses==Tryz.checked.prog.recurses 3)=true:=by kernel_rfl
theorem QBt:(Rows.topTubeSeriesRow.named==Tryz.checked.prog.varsNamed 3)=true:=by kernel_rfl
theorem QBs:(Rows.topTubeSeriesRow.maps==(Tryz.f3.params.toList++Rows.topTubeSeriesSpec.plain.varTypes Tryz.checked.prog).any (Tryz.checked.prog.mapsRec ·))=true:=by kernel_rfl
theorem QBr:(Rows.topTubeSeriesRow.ifaces==(Tryz.f3.params.toList++Rows.topTubeSeriesSpec.plain.varTypes Tryz.checked.prog).any (Tryz.checked.prog.ifacesRec ·))=true:=by kernel_rfl
theorem QBq:(Rows.topTubeSeriesRow.mapsOut==Tryz.checked.prog.mapsAmong Tryz.f3.resultTypes.toList)=true:=by kernel_rfl
theorem QBp:(Rows.topTubeSeriesRow.loops==(Tryz.f3.params.toList++Rows.topTubeSeriesSpec.plain.varTypes Tryz.checked.prog).any (Tryz.checked.prog.loopsFrom ·))=true:=by kernel_rfl
theorem QBo:(Rows.topTubeSeriesRow.wideKeys==(Tryz.f3.params.toList++Rows.topTubeSeriesSpec.plain.varTypes Tryz.checked.prog++Tryz.f3.resultTypes.toList).any (Tryz.checked.prog.wideKeysFrom ·))=true:=by kernel_rfl
theorem QBn:Rows.topTubeSeriesSpec.vars.all (Tryz.checked.prog.varReadable ·)=true:=by kernel_rfl
theorem QBm:(Tryz.f3.resultTypes.all (fun t=>Tryz.checked.prog.readableRec t&&decide (t<Tryz.checked.prog.types.size)))=true:=by kernel_rfl
theorem QBl:(Rows.topTubeSeriesRow.ifacesOut==Tryz.f3.resultTypes.toList.any (Tryz.checked.prog.ifacesRec ·))=true:=by kernel_rfl
theorem QBk:(Rows.topTubeSeriesRow.loopsOut==Tryz.f3.resultTypes.toList.any (Tryz.checked.prog.loopsFrom ·))=true:=by kernel_rfl
theorem QBj:Rows.topTubeSeriesRow.shortTexts.isNone=true:=by kernel_rfl
theorem QBi:(Rows.topTubeSeriesRow.pinned==Rows.topTubeSeriesRow.pinnedBy)=true:=by kernel_rfl
theorem QBh:(Rows.topTubeSeriesRow.veiled==(Tryz.f3.params.toList++Rows.topTubeSeriesSpec.plain.varTypes Tryz.checked.prog++Tryz.f3.resultTypes.toList).any (Tryz.checked.prog.veiledRec ·))=true:=by kernel_rfl
theorem QBg:Rows.topTubeSeriesRow.veiledFits Tryz.checked.prog Tryz.f3.params.toList (Tryz.f3.params.toList++Rows.topTubeSeriesSpec.plain.varTypes Tryz.checked.prog++Tryz.f3.resultTypes.toList)=true:=by kernel_rfl
theorem yA:joinedFacts Tryz.checked.prog 3 Tryz.f3 Rows.topTubeSeriesSpec Rows.topTubeSeriesRow=true:=by
 unfold joinedFacts
 exact YF (YF (YF (YF (YF (YF (YF (YF (YF (YF (YF (YF (YF (YF (YF (YF (YF (YF (YF (YF (YF (YF (YF (YF (YF (YF (YF (YF (YF (YF (YF QEI QC4) QC0) QEH) QEG) QEF) QEE) QED) QEC) QEB) QEA) QD9) QBt) QBs) QBr) QBq) QBp) QBo) QBn) QBm) QBl) QBk) QC5) QBj) cI) cJ) QC3) QC1) (by kernel_rfl)) QBi) QBh) QBg
theorem cV{H:Type}(enc:TypeId×Value→H)(os:Os):Rows.topTubeSeriesSpec.preB enc Tryz.checked.prog Tryz.f3 [] false ((World.laidAll Tryz.prog os B1).forCall (fun _ _=>0) ⟨#[],#[.agg #[.slice none 0 0,.slice none 0 0,.slice none 0 0],.int .u8 0,.string ⟨#[]⟩],[]⟩).memory #[.agg #[.slice none 0 0,.slice none 0 0,.slice none 0 0],.int .u8 0,.string ⟨#[]⟩] 8=true:=by kernel_rfl
theorem k6{H:Type}(enc:TypeId×Value→H)(os:Os):Rows.topTubeSeriesSpec.sizedB enc Tryz.checked.prog Tryz.f3 false ((World.laidAll Tryz.prog os B1).forCall (fun _ _=>0) ⟨#[],#[.agg #[.slice none 0 0,.slice none 0 0,.slice none 0 0],.int .u8 0,.string ⟨#[]⟩],[]⟩).memory #[.agg #[.slice none 0 0,.slice none 0 0,.slice none 0 0],.int .u8 0,.string ⟨#[]⟩] 8=true:=by kernel_rfl
theorem cW(os:Os):Input.okWideB Tryz.checked.prog ((World.laidAll Tryz.prog os B1).forCall (fun _ _=>0) ⟨#[],#[.agg #[.slice none 0 0,.slice none 0 0,.slice none 0 0],.int .u8 0,.string ⟨#[]⟩],[]⟩) 3 ⟨#[],#[.agg #[.slice none 0 0,.slice none 0 0,.slice none 0 0],.int .u8 0,.string ⟨#[]⟩],[]⟩=true:=by kernel_rfl
theorem z7(os:Os):((World.laidAll Tryz.prog os B1).forCall (fun _ _=>0) ⟨#[],#[.agg #[.slice none 0 0,.slice none 0 0,.slice none 0 0],.int .u8 0,.string ⟨#[]⟩],[]⟩).Shaped Tryz.checked.prog:=World.shaped_of_ZipB (by kernel_rfl) (by kernel_rfl)
theorem cX:Tryz.prog.inits.idxOf? 3=none:=by kernel_rfl
theorem de:(Tryz.f3.params.toList.all fun t=>Tryz.prog.readableRec t&&decide (t<Tryz.prog.types.size))=true:=by kernel_rfl
set_option maxRecDepth 100000 in
theorem z8(os:Os)(started:os.Started)(H:Type)(enc:TypeId×Value→H):
  ReturnsInHanded {} Tryz.checked os 3 .any (fun w args=>(Rows.topTubeSeriesSpec.pre enc Tryz.prog Tryz.f3 [] false w args∧laidMetH Tryz.prog B1 w)∧sizedMet enc Tryz.prog Tryz.f3 (OpenSpec.ofChange Rows.topTubeSeriesSpec) false w args)
   (Rows.topTubeSeriesSpec.post enc Tryz.prog Tryz.f3 false true false false):=by
 refine z6 os started enc Tryz.func3 cX rfl (fun ds h=>?_) rfl de
  (ChangeSpec.witness_shaped (enc:=enc) (C:=Tryz.checked) (os:=os) (X:=fun w _=>laidMetH Tryz.prog B1 w) false (World.laidAll Tryz.prog os B1) #[.agg #[.slice none 0 0,.slice none 0 0,.slice none 0 0],.int .u8 0,.string ⟨#[]⟩] 8 (World.laidAll_os _ _ _) (z7 os) (cW os) (cV enc os) (k6 enc os) (QAG os _)) ?_
 ·match ds,h with
  |[d1,d2,d3],_=>rfl
 ·intro W base args ds ps hval hA hF hG
  have hval:∀(j:Nat) t v,(#[26,5,27]:Array TypeId)[j]?=some t→args[j]?=some v→Value.okWide Tryz.prog W .any base t v:=hval
  have hA:DataW.TrodAll enc Tryz.prog W 0 (fun _=>true) true [26,5,27] args.toList ds ps:=hA
  obtain⟨v0,v1,v2,d0,d1,d2,p0,p1,p2,rfl,rfl,rfl,h0,h1,h2⟩:=trodAll_three hA
  obtain⟨y,rfl,hy,hl⟩:=QFx (hval 0 _ _ rfl rfl) h0
  obtain⟨k,rfl,hk⟩:=QH4 Tryz.underlying5 (hval 1 _ _ rfl rfl) h1
  obtain⟨a,rfl⟩:=QFy uZ (hval 2 _ _ rfl rfl) h2
  exact ve hF hG hy hl hl.sn hk
theorem Fu:Tryz.prog.funcNamed "integraph/integraphtop.TopTubeSeries" = some 3:=by kernel_rfl
theorem dh:Tryz.f3.isInstance Tryz.checked.prog Rows.topTubeSeriesRow.origin Rows.topTubeSeriesRow.targs:=QOW (by kernel_rfl)
theorem dc:Tryz.f3.isWrapper Tryz.checked.prog Rows.topTubeSeriesRow.wrapper Rows.topTubeSeriesRow.mainSum:=by unfold Func.isWrapper;first | (rw[if_pos (by decide +kernel)];kernel_rfl) | (rw[if_neg (by decide +kernel)];exact⟨rfl,rfl⟩)
theorem topTubeSeries_holds:Rows.TopTubeSeriesSaid :=
 OpenClaim.holds_of_wide 3 Tryz.f3 rfl rfl rfl rfl rfl rfl rfl ⟨rfl,rfl,rfl,rfl,rfl⟩ rfl rfl rfl rfl rfl Fu Tryz.func3 yA dh dc
  (fun os started H enc _=>z8 os started H enc)
theorem yB:Rows.topTubeSeriesRow.wfByText (OpenSpec.ofChange Rows.topTubeSeriesSpec)=true:=by kernel_rfl
theorem kz:(Tryz.f3.params.toList.all fun u=>!Tryz.prog.wantsStandIn u)=true:=by kernel_rfl
theorem di:false=Rows.topTubeSeriesRow.goesBy Tryz.checked.prog:=by kernel_rfl
theorem topTubeSeries_card_holds:Rows.TopTubeSeriesCardSaid :=
 Claim7.holds_tied_plain_at .later [] [.data,.data,.data,.sentinel,.sentinel] true (true, "a68662b76be833d081ba8f18971c18de1e8388eb992191c407b52de12ea41419") true
  topTubeSeries_holds (fun _ h=>by cases h) yB (fun _ h=>by cases h) topTubeSeries_row_tie rfl ⟨rfl,rfl⟩ QC2 rfl
  (fun f fn hf hfn=>by
   obtain rfl:f=3:=Option.some.inj (Fu.symm.trans hf) |>.symm
   obtain rfl:fn=Tryz.f3:=(Option.some.inj (Tryz.func3.symm.trans hfn)).symm
   exact⟨cH,fun j t ht=>by
    have hm:t∈Tryz.f3.params.toList:=by simpa using Array.mem_of_getElem? ht
    exact(show Tryz.prog.wantsStandIn t=false by simpa using List.all_eq_true.1 kz t hm)⟩)
  di
#print axioms topTubeSeries_card_holds
end
end Go.Proofs.YtogkbhegfnklhaaGreatDoor
