/- The law RunMachines answers true for every input and leaves its input as it was. -/
import Derived.Test.YtphlgddkpboamaaGreatDoorE3XCD
import Derived.Test.YtphlgddkpboamaaGreatDoorTie
set_option linter.all false
set_option maxHeartbeats 4000000
namespace Go.Proofs.YtphlgddkpboamaaGreatDoor
section
open Go.RowKit Go.ChangeShapes Go.WideShapes Ig
theorem Xco:Rows.runMachinesRow.wf (OpenSpec.ofChange Rows.runMachinesSpec)=true:=by kernel_rfl
theorem Xcn:Tryz.f4.params.all (Tryz.checked.prog.readableRec ·)=true:=by kernel_rfl
theorem Xcm:namedTie Tryz.checked.prog Rows.runMachinesRow.named Rows.runMachinesSpec.vars=true:=by kernel_rfl
theorem Xck:(Rows.runMachinesRow.stops==[])=true:=by kernel_rfl
theorem Xcj:(Tryz.checked.prog.stops==[])=true:=by kernel_rfl
theorem Xci:(Rows.runMachinesRow.knobs==[])=true:=by kernel_rfl
theorem Xch:(Tryz.checked.prog.stopKnobs==[])=true:=by kernel_rfl
theorem Xcg:(Rows.runMachinesRow.inPlace==Tryz.checked.prog.inPlace 4)=true:=by kernel_rfl
theorem Xcf:(Rows.runMachinesRow.unfollowed==Tryz.checked.prog.unfollowed 4)=true:=by kernel_rfl
theorem Xce:(Rows.runMachinesRow.recurses==Tryz.checked.prog.recurses 4)=true:=by kernel_rfl
theorem Xc3:(Rows.runMachinesRow.named==Tryz.checked.prog.varsNamed 4)=true:=by kernel_rfl
theorem Xc2:(Rows.runMachinesRow.maps==(Tryz.f4.params.toList++Rows.runMachinesSpec.plain.varTypes Tryz.checked.prog).any (Tryz.checked.prog.mapsRec ·))=true:=by kernel_rfl
theorem Xc1:(Rows.runMachinesRow.ifaces==(Tryz.f4.params.toList++Rows.runMachinesSpec.plain.varTypes Tryz.checked.prog).any (Tryz.checked.prog.ifacesRec ·))=true:=by kernel_rfl
theorem Xc0:(Rows.runMachinesRow.mapsOut==Tryz.checked.prog.mapsAmong Tryz.f4.resultTypes.toList)=true:=by kernel_rfl
theorem Xbz:(Rows.runMachinesRow.loops==(Tryz.f4.params.toList++Rows.runMachinesSpec.plain.varTypes Tryz.checked.prog).any (Tryz.checked.prog.loopsFrom ·))=true:=by kernel_rfl
theorem Xby:(Rows.runMachinesRow.wideKeys==(Tryz.f4.params.toList++Rows.runMachinesSpec.plain.varTypes Tryz.checked.prog++Tryz.f4.resultTypes.toList).any (Tryz.checked.prog.wideKeysFrom ·))=true:=by kernel_rfl
theorem Xbx:Rows.runMachinesSpec.vars.all (Tryz.checked.prog.varReadable ·)=true:=by kernel_rfl
theorem Xbw:(Tryz.f4.resultTypes.all (fun t=>Tryz.checked.prog.readableRec t&&decide (t<Tryz.checked.prog.types.size)))=true:=by kernel_rfl
theorem Xbv:(Rows.runMachinesRow.ifacesOut==Tryz.f4.resultTypes.toList.any (Tryz.checked.prog.ifacesRec ·))=true:=by kernel_rfl
theorem Xbu:(Rows.runMachinesRow.loopsOut==Tryz.f4.resultTypes.toList.any (Tryz.checked.prog.loopsFrom ·))=true:=by kernel_rfl
theorem Xbt:Rows.runMachinesRow.shortTexts.isNone=true:=by kernel_rfl
theorem Xbs:(Rows.runMachinesRow.pinned==Rows.runMachinesRow.pinnedBy)=true:=by kernel_rfl
theorem Xbr:(Rows.runMachinesRow.veiled==(Tryz.f4.params.toList++Rows.runMachinesSpec.plain.varTypes Tryz.checked.prog++Tryz.f4.resultTypes.toList).any (Tryz.checked.prog.veiledRec ·))=true:=by kernel_rfl
theorem Xbq:Rows.runMachinesRow.veiledFits Tryz.checked.prog Tryz.f4.params.toList (Tryz.f4.params.toList++Rows.runMachinesSpec.plain.varTypes Tryz.checked.prog++Tryz.f4.resultTypes.toList)=true:=by kernel_rfl
theorem Xao:joinedFacts Tryz.checked.prog 4 Tryz.f4 Rows.runMachinesSpec Rows.runMachinesRow=true:=by
 unfold joinedFacts
 exact Zu (Zu (Zu (Zu (Zu (Zu (Zu (Zu (Zu (Zu (Zu (Zu (Zu (Zu (Zu (Zu (Zu (Zu (Zu (Zu (Zu (Zu (Zu (Zu (Zu (Zu (Zu (Zu (Zu (Zu (Zu Xco pX) pT) Xcn) Xcm) Xck) Xcj) Xci) Xch) Xcg) Xcf) Xce) Xc3) Xc2) Xc1) Xc0) Xbz) Xby) Xbx) Xbw) Xbv) Xbu) pY) Xbt) yS) yU) pW) pU) (by kernel_rfl)) Xbs) Xbr) Xbq
theorem Xbc{H:Type}(enc:TypeId×Value→H)(os:Os):Rows.runMachinesSpec.preB enc Tryz.checked.prog Tryz.f4 [] false ((World.laidAll Tryz.prog os HH).forCall (fun _ _=>0) ⟨#[],#[.agg #[.int .i64 0,.slice none 0 0,.slice none 0 0,.slice none 0 0,.int .i64 0,.int .i64 0,.slice none 0 0,.slice none 0 0],.int .i64 0],[]⟩).memory #[.agg #[.int .i64 0,.slice none 0 0,.slice none 0 0,.slice none 0 0,.int .i64 0,.int .i64 0,.slice none 0 0,.slice none 0 0],.int .i64 0] 8=true:=by kernel_rfl
theorem Xaw{H:Type}(enc:TypeId×Value→H)(os:Os):Rows.runMachinesSpec.sizedB enc Tryz.checked.prog Tryz.f4 false ((World.laidAll Tryz.prog os HH).forCall (fun _ _=>0) ⟨#[],#[.agg #[.int .i64 0,.slice none 0 0,.slice none 0 0,.slice none 0 0,.int .i64 0,.int .i64 0,.slice none 0 0,.slice none 0 0],.int .i64 0],[]⟩).memory #[.agg #[.int .i64 0,.slice none 0 0,.slice none 0 0,.slice none 0 0,.int .i64 0,.int .i64 0,.slice none 0 0,.slice none 0 0],.int .i64 0] 8=true:=by kernel_rfl
theorem Xbd(os:Os):Input.okWideB Tryz.checked.prog ((World.laidAll Tryz.prog os HH).forCall (fun _ _=>0) ⟨#[],#[.agg #[.int .i64 0,.slice none 0 0,.slice none 0 0,.slice none 0 0,.int .i64 0,.int .i64 0,.slice none 0 0,.slice none 0 0],.int .i64 0],[]⟩) 4 ⟨#[],#[.agg #[.int .i64 0,.slice none 0 0,.slice none 0 0,.slice none 0 0,.int .i64 0,.int .i64 0,.slice none 0 0,.slice none 0 0],.int .i64 0],[]⟩=true:=by kernel_rfl
theorem Xam(os:Os):((World.laidAll Tryz.prog os HH).forCall (fun _ _=>0) ⟨#[],#[.agg #[.int .i64 0,.slice none 0 0,.slice none 0 0,.slice none 0 0,.int .i64 0,.int .i64 0,.slice none 0 0,.slice none 0 0],.int .i64 0],[]⟩).Shaped Tryz.checked.prog:=World.shaped_of_ZipB (by kernel_rfl) (by kernel_rfl)
theorem Xbe:Tryz.prog.inits.idxOf? 4=none:=by kernel_rfl
theorem Xb2:(Tryz.f4.params.toList.all fun t=>Tryz.prog.readableRec t&&decide (t<Tryz.prog.types.size))=true:=by kernel_rfl
set_option maxRecDepth 100000 in
theorem Xan(os:Os)(started:os.Started)(H:Type)(enc:TypeId×Value→H):
  ReturnsInHanded {} Tryz.checked os 4 .any (fun w args=>(Rows.runMachinesSpec.pre enc Tryz.prog Tryz.f4 [] false w args∧laidMetH Tryz.prog HH w)∧sizedMet enc Tryz.prog Tryz.f4 (OpenSpec.ofChange Rows.runMachinesSpec) false w args)
   (Rows.runMachinesSpec.post enc Tryz.prog Tryz.f4 false true false false):=by
 refine O4 os started enc Tryz.func4 Xbe rfl (fun ds h=>?_) rfl Xb2
  (ChangeSpec.witness_shaped (enc:=enc) (C:=Tryz.checked) (os:=os) (X:=fun w _=>laidMetH Tryz.prog HH w) false (World.laidAll Tryz.prog os HH) #[.agg #[.int .i64 0,.slice none 0 0,.slice none 0 0,.slice none 0 0,.int .i64 0,.int .i64 0,.slice none 0 0,.slice none 0 0],.int .i64 0] 8 (World.laidAll_os _ _ _) (Xam os) (Xbd os) (Xbc enc os) (Xaw enc os) (y6 os _)) ?_
 ·match ds,h with
  |[d1,d2],_=>rfl
 ·intro W base args ds ps hval hA hF hG
  have hval:∀(j:Nat) t v,(#[28,3]:Array TypeId)[j]?=some t→args[j]?=some v→Value.okWide Tryz.prog W .any base t v:=hval
  have hA:DataW.TrodAll enc Tryz.prog W 0 (fun _=>true) true [28,3] args.toList ds ps:=hA
  obtain⟨v0,v1,d0,d1,p0,p1,rfl,rfl,rfl,h0,h1⟩:=trodAll_two hA
  obtain⟨m,rfl,hm⟩:=jZ (hval 0 _ _ rfl rfl) h0
  obtain⟨s,rfl,hs⟩:=Xbm Tryz.underlying3 (hval 1 _ _ rfl rfl) h1
  exact Xag hF hG hm
theorem Xaa:Tryz.prog.funcNamed "integraph/integraphlaw09.RunMachines" = some 4:=by kernel_rfl
theorem Xb3:Tryz.f4.isInstance Tryz.checked.prog Rows.runMachinesRow.origin Rows.runMachinesRow.targs:=QLr (by kernel_rfl)
theorem Xb1:Tryz.f4.isWrapper Tryz.checked.prog Rows.runMachinesRow.wrapper Rows.runMachinesRow.mainSum:=by unfold Func.isWrapper;first | (rw[if_pos (by decide +kernel)];kernel_rfl) | (rw[if_neg (by decide +kernel)];exact⟨rfl,rfl⟩)
theorem runMachines_holds:Rows.RunMachinesSaid :=
 OpenClaim.holds_of_wide 4 Tryz.f4 rfl rfl rfl rfl rfl rfl rfl ⟨rfl,rfl,rfl,rfl,rfl⟩ rfl rfl rfl rfl rfl Xaa Tryz.func4 Xao Xb3 Xb1
  (fun os started H enc _=>Xan os started H enc)
theorem Xap:Rows.runMachinesRow.wfByText (OpenSpec.ofChange Rows.runMachinesSpec)=true:=by kernel_rfl
theorem Xav:(Tryz.f4.params.toList.all fun u=>!Tryz.prog.wantsStandIn u)=true:=by kernel_rfl
theorem Xb4:false=Rows.runMachinesRow.goesBy Tryz.checked.prog:=qX pS
theorem runMachines_card_holds:Rows.RunMachinesCardSaid :=
 Claim7.holds_tied_plain_at .later [] [.data,.data,.data,.data,.sentinel,.sentinel,.pinned] true (true, "fab1fad2b17ac901eb722dbf0382b16331c23e82043e6490dae2ac53ad462a07") true
  runMachines_holds (fun _ h=>by cases h) Xap (fun _ h=>by cases h) runMachines_row_tie rfl ⟨rfl,rfl⟩ pV rfl
  (fun f fn hf hfn=>by
   obtain rfl:f=4:=Option.some.inj (Xaa.symm.trans hf) |>.symm
   obtain rfl:fn=Tryz.f4:=(Option.some.inj (Tryz.func4.symm.trans hfn)).symm
   exact⟨yR,fun j t ht=>by
    have hm:t∈Tryz.f4.params.toList:=by simpa using Array.mem_of_getElem? ht
    exact(show Tryz.prog.wantsStandIn t=false by simpa using List.all_eq_true.1 Xav t hm)⟩)
  Xb4
#print axioms runMachines_card_holds
end
end Go.Proofs.YtphlgddkpboamaaGreatDoor
