/- TopTrained -/
import Derived.Test.YteldggljlnakmaaGreatDoorE2XCF
import Derived.Test.YteldggljlnakmaaGreatDoorTie
set_option linter.all false
set_option maxHeartbeats 4000000
namespace Go.Proofs.YteldggljlnakmaaGreatDoor
section
open Go.RowKit Go.ChangeShapes Go.WideShapes Ig
theorem QHw:Rows.topTrainedRow.wf (OpenSpec.ofChange Rows.topTrainedSpec)=true:=by kernel_rfl
theorem QHv:Tryz.f3.params.all (Tryz.checked.prog.readableRec ·)=true:=by kernel_rfl
theorem QHu:namedTie Tryz.checked.prog Rows.topTrainedRow.named Rows.topTrainedSpec.vars=true:=by kernel_rfl
theorem QHt:(Rows.topTrainedRow.stops==[])=true:=by kernel_rfl
theorem QHs:(Tryz.checked.prog.stops==[])=true:=by kernel_rfl
theorem QHr:(Rows.topTrainedRow.knobs==[])=true:=by kernel_rfl
theorem QHq:(Tryz.checked.prog.stopKnobs==[])=true:=by kernel_rfl
theorem QHp:(Rows.topTrainedRow.inPlace==Tryz.checked.prog.inPlace 3)=true:=by kernel_rfl
theorem QHo:(Rows.topTrainedRow.unfollowed==Tryz.checked.prog.unfollowed 3)=true:=by kernel_rfl
theorem QHn:(Rows.topTrainedRow.recurses==Tryz.checked.prog.recurses 3)=true:=by kernel_rfl
theorem QF6:(Rows.topTrainedRow.named==Tryz.checked.prog.varsNamed 3)=true:=by kernel_rfl
theorem QF5:(Rows.topTrainedRow.maps==(Tryz.f3.params.toList++Rows.topTrainedSpec.plain.varTypes Tryz.checked.prog).any (Tryz.checked.prog.mapsRec ·))=true:=by kernel_rfl
theorem QF4:(Rows.topTrainedRow.ifaces==(Tryz.f3.params.toList++Rows.topTrainedSpec.plain.varTypes Tryz.checked.prog).any (Tryz.checked.prog.ifacesRec ·))=true:=by kernel_rfl
theorem QF3:(Rows.topTrainedRow.mapsOut==Tryz.checked.prog.mapsAmong Tryz.f3.resultTypes.toList)=true:=by kernel_rfl
theorem QF2:(Rows.topTrainedRow.loops==(Tryz.f3.params.toList++Rows.topTrainedSpec.plain.varTypes Tryz.checked.prog).any (Tryz.checked.prog.loopsFrom ·))=true:=by kernel_rfl
theorem QF1:(Rows.topTrainedRow.wideKeys==(Tryz.f3.params.toList++Rows.topTrainedSpec.plain.varTypes Tryz.checked.prog++Tryz.f3.resultTypes.toList).any (Tryz.checked.prog.wideKeysFrom ·))=true:=by kernel_rfl
theorem QF0:Rows.topTrainedSpec.vars.all (Tryz.checked.prog.varReadable ·)=true:=by kernel_rfl
theorem QFz:(Tryz.f3.resultTypes.all (fun t=>Tryz.checked.prog.readableRec t&&decide (t<Tryz.checked.prog.types.size)))=true:=by kernel_rfl
theorem QFy:(Rows.topTrainedRow.ifacesOut==Tryz.f3.resultTypes.toList.any (Tryz.checked.prog.ifacesRec ·))=true:=by kernel_rfl
theorem QFx:(Rows.topTrainedRow.loopsOut==Tryz.f3.resultTypes.toList.any (Tryz.checked.prog.loopsFrom ·))=true:=by kernel_rfl
theorem QFw:Rows.topTrainedRow.shortTexts.isNone=true:=by kernel_rfl
theorem QFv:(Rows.topTrainedRow.pinned==Rows.topTrainedRow.pinnedBy)=true:=by kernel_rfl
theorem QFu:(Rows.topTrainedRow.veiled==(Tryz.f3.params.toList++Rows.topTrainedSpec.plain.varTypes Tryz.checked.prog++Tryz.f3.resultTypes.toList).any (Tryz.checked.prog.veiledRec ·))=true:=by kernel_rfl
theorem QFt:Rows.topTrainedRow.veiledFits Tryz.checked.prog Tryz.f3.params.toList (Tryz.f3.params.toList++Rows.topTrainedSpec.plain.varTypes Tryz.checked.prog++Tryz.f3.resultTypes.toList)=true:=by kernel_rfl
theorem cG:joinedFacts Tryz.checked.prog 3 Tryz.f3 Rows.topTrainedSpec Rows.topTrainedRow=true:=by
 unfold joinedFacts
 exact YS (YS (YS (YS (YS (YS (YS (YS (YS (YS (YS (YS (YS (YS (YS (YS (YS (YS (YS (YS (YS (YS (YS (YS (YS (YS (YS (YS (YS (YS (YS QHw QB6) QB2) QHv) QHu) QHt) QHs) QHr) QHq) QHp) QHo) QHn) QF6) QF5) QF4) QF3) QF2) QF1) QF0) QFz) QFy) QFx) QB7) QFw) uo) uq) QB5) QB3) (by kernel_rfl)) QFv) QFu) QFt
theorem QER{H:Type}(enc:TypeId×Value→H)(os:Os):Rows.topTrainedSpec.preB enc Tryz.checked.prog Tryz.f3 [] false ((World.laidAll Tryz.prog os B5).forCall (fun _ _=>0) ⟨#[],#[.agg #[.int .i64 0,.slice none 0 0,.slice none 0 0],.slice none 0 0],[]⟩).memory #[.agg #[.int .i64 0,.slice none 0 0,.slice none 0 0],.slice none 0 0] 8=true:=by kernel_rfl
theorem QA4{H:Type}(enc:TypeId×Value→H)(os:Os):Rows.topTrainedSpec.sizedB enc Tryz.checked.prog Tryz.f3 false ((World.laidAll Tryz.prog os B5).forCall (fun _ _=>0) ⟨#[],#[.agg #[.int .i64 0,.slice none 0 0,.slice none 0 0],.slice none 0 0],[]⟩).memory #[.agg #[.int .i64 0,.slice none 0 0,.slice none 0 0],.slice none 0 0] 8=true:=by kernel_rfl
theorem QES(os:Os):Input.okWideB Tryz.checked.prog ((World.laidAll Tryz.prog os B5).forCall (fun _ _=>0) ⟨#[],#[.agg #[.int .i64 0,.slice none 0 0,.slice none 0 0],.slice none 0 0],[]⟩) 3 ⟨#[],#[.agg #[.int .i64 0,.slice none 0 0,.slice none 0 0],.slice none 0 0],[]⟩=true:=by kernel_rfl
theorem cE(os:Os):((World.laidAll Tryz.prog os B5).forCall (fun _ _=>0) ⟨#[],#[.agg #[.int .i64 0,.slice none 0 0,.slice none 0 0],.slice none 0 0],[]⟩).Shaped Tryz.checked.prog:=World.shaped_of_ZipB (by kernel_rfl) (by kernel_rfl)
theorem QET:Tryz.prog.inits.idxOf? 3=none:=by kernel_rfl
theorem QC8:(Tryz.f3.params.toList.all fun t=>Tryz.prog.readableRec t&&decide (t<Tryz.prog.types.size))=true:=by kernel_rfl
set_option maxRecDepth 100000 in
theorem cF(os:Os)(started:os.Started)(H:Type)(enc:TypeId×Value→H):
  ReturnsInHanded {} Tryz.checked os 3 .any (fun w args=>(Rows.topTrainedSpec.pre enc Tryz.prog Tryz.f3 [] false w args∧laidMetH Tryz.prog B5 w)∧sizedMet enc Tryz.prog Tryz.f3 (OpenSpec.ofChange Rows.topTrainedSpec) false w args)
   (Rows.topTrainedSpec.post enc Tryz.prog Tryz.f3 false true false false):=by
 refine zK os started enc Tryz.func3 QET rfl (fun ds h=>?_) rfl QC8
  (ChangeSpec.witness_shaped (enc:=enc) (C:=Tryz.checked) (os:=os) (X:=fun w _=>laidMetH Tryz.prog B5 w) false (World.laidAll Tryz.prog os B5) #[.agg #[.int .i64 0,.slice none 0 0,.slice none 0 0],.slice none 0 0] 8 (World.laidAll_os _ _ _) (cE os) (QES os) (QER enc os) (QA4 enc os) (cS os _)) ?_
 ·match ds,h with
  |[d1,d2],_=>rfl
 ·intro W base args ds ps hval hA hF hG
  have hval:∀(j:Nat) t v,(#[25,26]:Array TypeId)[j]?=some t→args[j]?=some v→Value.okWide Tryz.prog W .any base t v:=hval
  have hA:DataW.TrodAll enc Tryz.prog W 0 (fun _=>true) true [25,26] args.toList ds ps:=hA
  obtain⟨v0,v1,d0,d1,p0,p1,rfl,rfl,rfl,h0,h1⟩:=trodAll_two hA
  obtain⟨p,rfl,hp,hl⟩:=QAr (hval 0 _ _ rfl rfl) h0
  obtain⟨q,n,c,ts,rfl,ht,hn,hb⟩:=uw (hval 1 _ _ rfl rfl) h1
  exact QCd hF hG hp hl ht hn hb
theorem zN:Tryz.prog.funcNamed "integraph/integraphtop.TopTrained" = some 3:=by kernel_rfl
theorem QC9:Tryz.f3.isInstance Tryz.checked.prog Rows.topTrainedRow.origin Rows.topTrainedRow.targs:=QK8 (by kernel_rfl)
theorem QC7:Tryz.f3.isWrapper Tryz.checked.prog Rows.topTrainedRow.wrapper Rows.topTrainedRow.mainSum:=by unfold Func.isWrapper;first | (rw[if_pos (by decide +kernel)];kernel_rfl) | (rw[if_neg (by decide +kernel)];exact⟨rfl,rfl⟩)
theorem topTrained_holds:Rows.TopTrainedSaid :=
 OpenClaim.holds_of_wide 3 Tryz.f3 rfl rfl rfl rfl rfl rfl rfl ⟨rfl,rfl,rfl,rfl,rfl⟩ rfl rfl rfl rfl rfl zN Tryz.func3 cG QC9 QC7
  (fun os started H enc _=>cF os started H enc)
theorem cH:Rows.topTrainedRow.wfByText (OpenSpec.ofChange Rows.topTrainedSpec)=true:=by kernel_rfl
theorem QA3:(Tryz.f3.params.toList.all fun u=>!Tryz.prog.wantsStandIn u)=true:=by kernel_rfl
theorem QDA:false=Rows.topTrainedRow.goesBy Tryz.checked.prog:=kY QB1
theorem topTrained_card_holds:Rows.TopTrainedCardSaid :=
 Claim7.holds_tied_plain_at .later [] [.data,.data,.data,.sentinel,.sentinel] true (true, "4f3072e64d8646386db7f01027e405f14e4f73fad45f0c205dbc4827728e3f0c") true
  topTrained_holds (fun _ h=>by cases h) cH (fun _ h=>by cases h) topTrained_row_tie rfl ⟨rfl,rfl⟩ QB4 rfl
  (fun f fn hf hfn=>by
   obtain rfl:f=3:=Option.some.inj (zN.symm.trans hf) |>.symm
   obtain rfl:fn=Tryz.f3:=(Option.some.inj (Tryz.func3.symm.trans hfn)).symm
   exact⟨um,fun j t ht=>by
    have hm:t∈Tryz.f3.params.toList:=by simpa using Array.mem_of_getElem? ht
    exact(show Tryz.prog.wantsStandIn t=false by simpa using List.all_eq_true.1 QA3 t hm)⟩)
  QDA
#print axioms topTrained_card_holds
end
end Go.Proofs.YteldggljlnakmaaGreatDoor
