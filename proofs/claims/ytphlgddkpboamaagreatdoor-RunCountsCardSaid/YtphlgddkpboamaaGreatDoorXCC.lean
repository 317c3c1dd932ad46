/- The law RunCounts answers true for every input and leaves its input as it was. -/
import Derived.Test.YtphlgddkpboamaaGreatDoorE3XCC
import Derived.Test.YtphlgddkpboamaaGreatDoorTie
set_option linter.all false
set_option maxHeartbeats 4000000
namespace Go.Proofs.YtphlgddkpboamaaGreatDoor
section
open Go.RowKit Go.ChangeShapes Go.WideShapes Ig
theorem QI8:Rows.runCountsRow.wf (OpenSpec.ofChange Rows.runCountsSpec)=true:=by kernel_rfl
theorem QI7:Tryz.f3.params.all (Tryz.checked.prog.readableRec ·)=true:=by kernel_rfl
theorem QI6:namedTie Tryz.checked.prog Rows.runCountsRow.named Rows.runCountsSpec.vars=true:=by kernel_rfl
theorem QI5:(Rows.runCountsRow.stops==[])=true:=by kernel_rfl
theorem QI4:(Tryz.checked.prog.stops==[])=true:=by kernel_rfl
theorem QI3:(Rows.runCountsRow.knobs==[])=true:=by kernel_rfl
theorem QI2:(Tryz.checked.prog.stopKnobs==[])=true:=by kernel_rfl
theorem QI1:(Rows.runCountsRow.inPlace==Tryz.checked.prog.inPlace 3)=true:=by kernel_rfl
theorem QI0:(Rows.runCountsRow.unfollowed==Tryz.checked.prog.unfollowed 3)=true:=by kernel_rfl
theorem QIz:(Rows.runCountsRow.recurses==Tryz.checked.prog.recurses 3)=true:=by kernel_rfl
theorem QGz:(Rows.runCountsRow.named==Tryz.checked.prog.varsNamed 3)=true:=by kernel_rfl
theorem QGy:(Rows.runCountsRow.maps==(Tryz.f3.params.toList++Rows.runCountsSpec.plain.varTypes Tryz.checked.prog).any (Tryz.checked.prog.mapsRec ·))=true:=by kernel_rfl
theorem QGx:(Rows.runCountsRow.ifaces==(Tryz.f3.params.toList++Rows.runCountsSpec.plain.varTypes Tryz.checked.prog).any (Tryz.checked.prog.ifacesRec ·))=true:=by kernel_rfl
theorem QGw:(Rows.runCountsRow.mapsOut==Tryz.checked.prog.mapsAmong Tryz.f3.resultTypes.toList)=true:=by kernel_rfl
theorem QGv:(Rows.runCountsRow.loops==(Tryz.f3.params.toList++Rows.runCountsSpec.plain.varTypes Tryz.checked.prog).any (Tryz.checked.prog.loopsFrom ·))=true:=by kernel_rfl
theorem QGu:(Rows.runCountsRow.wideKeys==(Tryz.f3.params.toList++Rows.runCountsSpec.plain.varTypes Tryz.checked.prog++Tryz.f3.resultTypes.toList).any (Tryz.checked.prog.wideKeysFrom ·))=true:=by kernel_rfl
theorem QGt:Rows.runCountsSpec.vars.all (Tryz.checked.prog.varReadable ·)=true:=by kernel_rfl
theorem QGs:(Tryz.f3.resultTypes.all (fun t=>Tryz.checked.prog.readableRec t&&decide (t<Tryz.checked.prog.types.size)))=true:=by kernel_rfl
theorem QGr:(Rows.runCountsRow.ifacesOut==Tryz.f3.resultTypes.toList.any (Tryz.checked.prog.ifacesRec ·))=true:=by kernel_rfl
theorem QGq:(Rows.runCountsRow.loopsOut==Tryz.f3.resultTypes.toList.any (Tryz.checked.prog.loopsFrom ·))=true:=by kernel_rfl
theorem QGp:Rows.runCountsRow.shortTexts.isNone=true:=by kernel_rfl
theorem QGo:(Rows.runCountsRow.pinned==Rows.runCountsRow.pinnedBy)=true:=by kernel_rfl
theorem QGn:(Rows.runCountsRow.veiled==(Tryz.f3.params.toList++Rows.runCountsSpec.plain.varTypes Tryz.checked.prog++Tryz.f3.resultTypes.toList).any (Tryz.checked.prog.veiledRec ·))=true:=by kernel_rfl
theorem QGm:Rows.runCountsRow.veiledFits Tryz.checked.prog Tryz.f3.params.toList (Tryz.f3.params.toList++Rows.runCountsSpec.plain.varTypes Tryz.checked.prog++Tryz.f3.resultTypes.toList)=true:=by kernel_rfl
theorem gR:joinedFacts Tryz.checked.prog 3 Tryz.f3 Rows.runCountsSpec Rows.runCountsRow=true:=by
 unfold joinedFacts
 exact Zu (Zu (Zu (Zu (Zu (Zu (Zu (Zu (Zu (Zu (Zu (Zu (Zu (Zu (Zu (Zu (Zu (Zu (Zu (Zu (Zu (Zu (Zu (Zu (Zu (Zu (Zu (Zu (Zu (Zu (Zu QI8 pX) pT) QI7) QI6) QI5) QI4) QI3) QI2) QI1) QI0) QIz) QGz) QGy) QGx) QGw) QGv) QGu) QGt) QGs) QGr) QGq) pY) QGp) yS) yU) pW) pU) (by kernel_rfl)) QGo) QGn) QGm
theorem QEC{H:Type}(enc:TypeId×Value→H)(os:Os):Rows.runCountsSpec.preB enc Tryz.checked.prog Tryz.f3 [] false ((World.laidAll Tryz.prog os HH).forCall (fun _ _=>0) ⟨#[],#[.agg #[.int .i64 0,.slice none 0 0,.slice none 0 0,.slice none 0 0,.int .i64 0,.int .i64 0,.slice none 0 0,.slice none 0 0],.agg #[.int .i64 0,.slice none 0 0,.slice none 0 0,.slice none 0 0,.slice none 0 0,.slice none 0 0]],[]⟩).memory #[.agg #[.int .i64 0,.slice none 0 0,.slice none 0 0,.slice none 0 0,.int .i64 0,.int .i64 0,.slice none 0 0,.slice none 0 0],.agg #[.int .i64 0,.slice none 0 0,.slice none 0 0,.slice none 0 0,.slice none 0 0,.slice none 0 0]] 8=true:=by kernel_rfl
theorem cj{H:Type}(enc:TypeId×Value→H)(os:Os):Rows.runCountsSpec.sizedB enc Tryz.checked.prog Tryz.f3 false ((World.laidAll Tryz.prog os HH).forCall (fun _ _=>0) ⟨#[],#[.agg #[.int .i64 0,.slice none 0 0,.slice none 0 0,.slice none 0 0,.int .i64 0,.int .i64 0,.slice none 0 0,.slice none 0 0],.agg #[.int .i64 0,.slice none 0 0,.slice none 0 0,.slice none 0 0,.slice none 0 0,.slice none 0 0]],[]⟩).memory #[.agg #[.int .i64 0,.slice none 0 0,.slice none 0 0,.slice none 0 0,.int .i64 0,.int .i64 0,.slice none 0 0,.slice none 0 0],.agg #[.int .i64 0,.slice none 0 0,.slice none 0 0,.slice none 0 0,.slice none 0 0,.slice none 0 0]] 8=true:=by kernel_rfl
theorem QED(os:Os):Input.okWideB Tryz.checked.prog ((World.laidAll Tryz.prog os HH).forCall (fun _ _=>0) ⟨#[],#[.agg #[.int .i64 0,.slice none 0 0,.slice none 0 0,.slice none 0 0,.int .i64 0,.int .i64 0,.slice none 0 0,.slice none 0 0],.agg #[.int .i64 0,.slice none 0 0,.slice none 0 0,.slice none 0 0,.slice none 0 0,.slice none 0 0]],[]⟩) 3 ⟨#[],#[.agg #[.int .i64 0,.slice none 0 0,.slice none 0 0,.slice none 0 0,.int .i64 0,.int .i64 0,.slice none 0 0,.slice none 0 0],.agg #[.int .i64 0,.slice none 0 0,.slice none 0 0,.slice none 0 0,.slice none 0 0,.slice none 0 0]],[]⟩=true:=by kernel_rfl
theorem gP(os:Os):((World.laidAll Tryz.prog os HH).forCall (fun _ _=>0) ⟨#[],#[.agg #[.int .i64 0,.slice none 0 0,.slice none 0 0,.slice none 0 0,.int .i64 0,.int .i64 0,.slice none 0 0,.slice none 0 0],.agg #[.int .i64 0,.slice none 0 0,.slice none 0 0,.slice none 0 0,.slice none 0 0,.slice none 0 0]],[]⟩).Shaped Tryz.checked.prog:=World.shaped_of_ZipB (by kernel_rfl) (by kernel_rfl)
theorem QEE:Tryz.prog.inits.idxOf? 3=none:=by kernel_rfl
theorem QBn:(Tryz.f3.params.toList.all fun t=>Tryz.prog.readableRec t&&decide (t<Tryz.prog.types.size))=true:=by kernel_rfl
set_option maxRecDepth 100000 in
theorem gQ(os:Os)(started:os.Started)(H:Type)(enc:TypeId×Value→H):
  ReturnsInHanded {} Tryz.checked os 3 .any (fun w args=>(Rows.runCountsSpec.pre enc Tryz.prog Tryz.f3 [] false w args∧laidMetH Tryz.prog HH w)∧sizedMet enc Tryz.prog Tryz.f3 (OpenSpec.ofChange Rows.runCountsSpec) false w args)
   (Rows.runCountsSpec.post enc Tryz.prog Tryz.f3 false true false false):=by
 refine O4 os started enc Tryz.func3 QEE rfl (fun ds h=>?_) rfl QBn
  (ChangeSpec.witness_shaped (enc:=enc) (C:=Tryz.checked) (os:=os) (X:=fun w _=>laidMetH Tryz.prog HH w) false (World.laidAll Tryz.prog os HH) #[.agg #[.int .i64 0,.slice none 0 0,.slice none 0 0,.slice none 0 0,.int .i64 0,.int .i64 0,.slice none 0 0,.slice none 0 0],.agg #[.int .i64 0,.slice none 0 0,.slice none 0 0,.slice none 0 0,.slice none 0 0,.slice none 0 0]] 8 (World.laidAll_os _ _ _) (gP os) (QED os) (QEC enc os) (cj enc os) (y6 os _)) ?_
 ·match ds,h with
  |[d1,d2],_=>rfl
 ·intro W base args ds ps hval hA hF hG
  have hval:∀(j:Nat) t v,(#[28,32]:Array TypeId)[j]?=some t→args[j]?=some v→Value.okWide Tryz.prog W .any base t v:=hval
  have hA:DataW.TrodAll enc Tryz.prog W 0 (fun _=>true) true [28,32] args.toList ds ps:=hA
  obtain⟨v0,v1,d0,d1,p0,p1,rfl,rfl,rfl,h0,h1⟩:=trodAll_two hA
  obtain⟨m,rfl,hm⟩:=jZ (hval 0 _ _ rfl rfl) h0
  obtain⟨s,rfl,hs⟩:=yZ (hval 1 _ _ rfl rfl) h1
  exact z7 hF hG hm hs
theorem qW:Tryz.prog.funcNamed "integraph/integraphlaw09.RunCounts" = some 3:=by kernel_rfl
theorem QBo:Tryz.f3.isInstance Tryz.checked.prog Rows.runCountsRow.origin Rows.runCountsRow.targs:=QLr (by kernel_rfl)
theorem QBm:Tryz.f3.isWrapper Tryz.checked.prog Rows.runCountsRow.wrapper Rows.runCountsRow.mainSum:=by unfold Func.isWrapper;first | (rw[if_pos (by decide +kernel)];kernel_rfl) | (rw[if_neg (by decide +kernel)];exact⟨rfl,rfl⟩)
theorem runCounts_holds:Rows.RunCountsSaid :=
 OpenClaim.holds_of_wide 3 Tryz.f3 rfl rfl rfl rfl rfl rfl rfl ⟨rfl,rfl,rfl,rfl,rfl⟩ rfl rfl rfl rfl rfl qW Tryz.func3 gR QBo QBm
  (fun os started H enc _=>gQ os started H enc)
theorem gT:Rows.runCountsRow.wfByText (OpenSpec.ofChange Rows.runCountsSpec)=true:=by kernel_rfl
theorem cg:(Tryz.f3.params.toList.all fun u=>!Tryz.prog.wantsStandIn u)=true:=by kernel_rfl
theorem QBp:false=Rows.runCountsRow.goesBy Tryz.checked.prog:=qX pS
theorem runCounts_card_holds:Rows.RunCountsCardSaid :=
 Claim7.holds_tied_plain_at .later [] [.data,.data,.data,.data,.sentinel,.sentinel,.pinned] true (true, "fab1fad2b17ac901eb722dbf0382b16331c23e82043e6490dae2ac53ad462a07") true
  runCounts_holds (fun _ h=>by cases h) gT (fun _ h=>by cases h) runCounts_row_tie rfl ⟨rfl,rfl⟩ pV rfl
  (fun f fn hf hfn=>by
   obtain rfl:f=3:=Option.some.inj (qW.symm.trans hf) |>.symm
   obtain rfl:fn=Tryz.f3:=(Option.some.inj (Tryz.func3.symm.trans hfn)).symm
   exact⟨yR,fun j t ht=>by
    have hm:t∈Tryz.f3.params.toList:=by simpa using Array.mem_of_getElem? ht
    exact(show Tryz.prog.wantsStandIn t=false by simpa using List.all_eq_true.1 cg t hm)⟩)
  QBp
#print axioms runCounts_card_holds
end
end Go.Proofs.YtphlgddkpboamaaGreatDoor
