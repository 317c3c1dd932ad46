/- EncloseRational: the solution c/(1 - a c t) of x' = a x^2 lies in the boxes of a tube, and a tube never reaches its pole, at every input. -/
import Derived.Test.YtbpmnjieoncbcaaGreatDoorE1XCw
import Derived.Test.YtbpmnjieoncbcaaGreatDoorTie
set_option linter.all false
set_option maxHeartbeats 4000000
namespace Go.Proofs.YtbpmnjieoncbcaaGreatDoor
section
open Go.RowKit Go.ChangeShapes Go.WideShapes Ig
theorem Xc8:Rows.encloseRationalRow.wf (OpenSpec.ofChange Rows.encloseRationalSpec)=true:=by kernel_rfl
theorem Xc7:Tryz.f5.params.all (Tryz.checked.prog.readableRec ·)=true:=by kernel_rfl
theorem Xc6:namedTie Tryz.checked.prog Rows.encloseRationalRow.named Rows.encloseRationalSpec.vars=true:=by kernel_rfl
theorem Xc5:(Rows.encloseRationalRow.stops==[])=true:=by kernel_rfl
theorem Xc4:(Tryz.checked.prog.stops==[])=true:=by kernel_rfl
theorem Xc3:(Rows.encloseRationalRow.knobs==[])=true:=by kernel_rfl
theorem Xc2:(Tryz.checked.prog.stopKnobs==[])=true:=by kernel_rfl
theorem Xc1:(Rows.encloseRationalRow.inPlace==Tryz.checked.prog.inPlace 5)=true:=by kernel_rfl
theorem Xc0:(Rows.encloseRationalRow.unfollowed==Tryz.checked.prog.unfollowed 5)=true:=by kernel_rfl
theorem Xbz:(Rows.encloseRationalRow.recurses==Tryz.checked.prog.recurses 5)=true:=by kernel_rfl
theorem Xbi:(Rows.encloseRationalRow.named==Tryz.checked.prog.varsNamed 5)=true:=by kernel_rfl
theorem Xbh:(Rows.encloseRationalRow.maps==(Tryz.f5.params.toList++Rows.encloseRationalSpec.plain.varTypes Tryz.checked.prog).any (Tryz.checked.prog.mapsRec ·))=true:=by kernel_rfl
theorem Xbg:(Rows.encloseRationalRow.ifaces==(Tryz.f5.params.toList++Rows.encloseRationalSpec.plain.varTypes Tryz.checked.prog).any (Tryz.checked.prog.ifacesRec ·))=true:=by kernel_rfl
theorem Xbf:(Rows.encloseRationalRow.mapsOut==Tryz.checked.prog.mapsAmong Tryz.f5.resultTypes.toList)=true:=by kernel_rfl
theorem Xbe:(Rows.encloseRationalRow.loops==(Tryz.f5.params.toList++Rows.encloseRationalSpec.plain.varTypes Tryz.checked.prog).any (Tryz.checked.prog.loopsFrom ·))=true:=by kernel_rfl
theorem Xbd:(Rows.encloseRationalRow.wideKeys==(Tryz.f5.params.toList++Rows.encloseRationalSpec.plain.varTypes Tryz.checked.prog++Tryz.f5.resultTypes.toList).any (Tryz.checked.prog.wideKeysFrom ·))=true:=by kernel_rfl
theorem Xbc:Rows.encloseRationalSpec.vars.all (Tryz.checked.prog.varReadable ·)=true:=by kernel_rfl
theorem Xbb:(Tryz.f5.resultTypes.all (fun t=>Tryz.checked.prog.readableRec t&&decide (t<Tryz.checked.prog.types.size)))=true:=by kernel_rfl
theorem Xba:(Rows.encloseRationalRow.ifacesOut==Tryz.f5.resultTypes.toList.any (Tryz.checked.prog.ifacesRec ·))=true:=by kernel_rfl
theorem Xb9:(Rows.encloseRationalRow.loopsOut==Tryz.f5.resultTypes.toList.any (Tryz.checked.prog.loopsFrom ·))=true:=by kernel_rfl
theorem Xb8:Rows.encloseRationalRow.shortTexts.isNone=true:=by kernel_rfl
theorem Xb7:(Rows.encloseRationalRow.pinned==Rows.encloseRationalRow.pinnedBy)=true:=by kernel_rfl
theorem Xb6:(Rows.encloseRationalRow.veiled==(Tryz.f5.params.toList++Rows.encloseRationalSpec.plain.varTypes Tryz.checked.prog++Tryz.f5.resultTypes.toList).any (Tryz.checked.prog.veiledRec ·))=true:=by kernel_rfl
theorem Xb5:Rows.encloseRationalRow.veiledFits Tryz.checked.prog Tryz.f5.params.toList (Tryz.f5.params.toList++Rows.encloseRationalSpec.plain.varTypes Tryz.checked.prog++Tryz.f5.resultTypes.toList)=true:=by kernel_rfl
theorem Xae:joinedFacts Tryz.checked.prog 5 Tryz.f5 Rows.encloseRationalSpec Rows.encloseRationalRow=true:=by
 unfold joinedFacts
 exact Y0 (Y0 (Y0 (Y0 (Y0 (Y0 (Y0 (Y0 (Y0 (Y0 (Y0 (Y0 (Y0 (Y0 (Y0 (Y0 (Y0 (Y0 (Y0 (Y0 (Y0 (Y0 (Y0 (Y0 (Y0 (Y0 (Y0 (Y0 (Y0 (Y0 (Y0 Xc8 QCa) QCW) Xc7) Xc6) Xc5) Xc4) Xc3) Xc2) Xc1) Xc0) Xbz) Xbi) Xbh) Xbg) Xbf) Xbe) Xbd) Xbc) Xbb) Xba) Xb9) QCb) Xb8) cD) cE) QCZ) QCX) (by kernel_rfl)) Xb7) Xb6) Xb5
theorem Xay{H:Type}(enc:TypeId×Value→H)(os:Os):Rows.encloseRationalSpec.preB enc Tryz.checked.prog Tryz.f5 [] false ((World.doorLaid Tryz.prog 4000 os).forCall (fun _ _=>0) ⟨#[],#[.string ⟨#[]⟩,.string ⟨#[]⟩,.int .u8 0],[]⟩).memory #[.string ⟨#[]⟩,.string ⟨#[]⟩,.int .u8 0] 8=true:=by kernel_rfl
theorem Xai{H:Type}(enc:TypeId×Value→H)(os:Os):Rows.encloseRationalSpec.sizedB enc Tryz.checked.prog Tryz.f5 false ((World.doorLaid Tryz.prog 4000 os).forCall (fun _ _=>0) ⟨#[],#[.string ⟨#[]⟩,.string ⟨#[]⟩,.int .u8 0],[]⟩).memory #[.string ⟨#[]⟩,.string ⟨#[]⟩,.int .u8 0] 8=true:=by kernel_rfl
theorem Xaz(os:Os):Input.okWideB Tryz.checked.prog ((World.doorLaid Tryz.prog 4000 os).forCall (fun _ _=>0) ⟨#[],#[.string ⟨#[]⟩,.string ⟨#[]⟩,.int .u8 0],[]⟩) 5 ⟨#[],#[.string ⟨#[]⟩,.string ⟨#[]⟩,.int .u8 0],[]⟩=true:=by kernel_rfl
theorem Xac(os:Os):((World.doorLaid Tryz.prog 4000 os).forCall (fun _ _=>0) ⟨#[],#[.string ⟨#[]⟩,.string ⟨#[]⟩,.int .u8 0],[]⟩).Shaped Tryz.checked.prog:=World.shaped_of_RefB (by kernel_rfl) (by kernel_rfl)
theorem Xb0:Tryz.prog.inits.idxOf? 5=none:=by kernel_rfl
theorem Xaq:(Tryz.f5.params.toList.all fun t=>Tryz.prog.readableRec t&&decide (t<Tryz.prog.types.size))=true:=by kernel_rfl
set_option maxRecDepth 100000 in
theorem Xad(os:Os)(started:os.Started)(H:Type)(enc:TypeId×Value→H):
  ReturnsInHanded {} Tryz.checked os 5 .any (fun w args=>(Rows.encloseRationalSpec.pre enc Tryz.prog Tryz.f5 [] false w args∧laidMetH Tryz.prog TI w)∧sizedMet enc Tryz.prog Tryz.f5 (OpenSpec.ofChange Rows.encloseRationalSpec) false w args)
   (Rows.encloseRationalSpec.post enc Tryz.prog Tryz.f5 false true false false):=by
 refine yX os started enc Tryz.func5 Xb0 rfl (fun ds h=>?_) rfl Xaq
  (ChangeSpec.witness_shaped (enc:=enc) (C:=Tryz.checked) (os:=os) (X:=fun w _=>laidMetH Tryz.prog TI w) false (World.doorLaid Tryz.prog 4000 os) #[.string ⟨#[]⟩,.string ⟨#[]⟩,.int .u8 0] 8 rfl (Xac os) (Xaz os) (Xay enc os) (Xai enc os) (cj os _)) ?_
 ·match ds,h with
  |[d1,d2,d3],_=>rfl
 ·intro W base args ds ps hval hA hF hG
  have hval:∀(j:Nat) t v,(#[27,27,5]:Array TypeId)[j]?=some t→args[j]?=some v→Value.okWide Tryz.prog W .any base t v:=hval
  have hA:DataW.TrodAll enc Tryz.prog W 0 (fun _=>true) true [27,27,5] args.toList ds ps:=hA
  obtain⟨v0,v1,v2,d0,d1,d2,p0,p1,p2,rfl,rfl,rfl,h0,h1,h2⟩:=trodAll_three hA
  obtain⟨a,rfl⟩:=Xby jV (hval 0 _ _ rfl rfl) h0
  obtain⟨c,rfl⟩:=Xby jV (hval 1 _ _ rfl rfl) h1
  obtain⟨k,rfl,hk⟩:=Xdk Tryz.underlying5 (hval 2 _ _ rfl rfl) h2
  exact Xce hF hG hk
theorem Xa4:Tryz.prog.funcNamed "integraph/integraphlaw08.EncloseRational" = some 5:=by kernel_rfl
theorem Xar:Tryz.f5.isInstance Tryz.checked.prog Rows.encloseRationalRow.origin Rows.encloseRationalRow.targs:=QJG (by kernel_rfl)
theorem Xap:Tryz.f5.isWrapper Tryz.checked.prog Rows.encloseRationalRow.wrapper Rows.encloseRationalRow.mainSum:=by unfold Func.isWrapper;first | (rw[if_pos (by decide +kernel)];kernel_rfl) | (rw[if_neg (by decide +kernel)];exact⟨rfl,rfl⟩)
theorem encloseRational_holds:Rows.EncloseRationalSaid :=
 OpenClaim.holds_of_wide 5 Tryz.f5 rfl rfl rfl rfl rfl rfl rfl ⟨rfl,rfl,rfl,rfl,rfl⟩ rfl rfl rfl rfl rfl Xa4 Tryz.func5 Xae Xar Xap
  (fun os started H enc _=>Xad os started H enc)
theorem Xaf:Rows.encloseRationalRow.wfByText (OpenSpec.ofChange Rows.encloseRationalSpec)=true:=by kernel_rfl
theorem Xah:(Tryz.f5.params.toList.all fun u=>!Tryz.prog.wantsStandIn u)=true:=by kernel_rfl
theorem Xas:false=Rows.encloseRationalRow.goesBy Tryz.checked.prog:=by kernel_rfl
theorem encloseRational_card_holds:Rows.EncloseRationalCardSaid :=
 Claim7.holds_tied_plain_at .later [] [.data,.data,.data,.sentinel,.sentinel] true (true, "e7a47d4e8686cc4facee2a3758277f3942a66852a9ac0d33b1e3d7fea33e2a59") true
  encloseRational_holds (fun _ h=>by cases h) Xaf (fun _ h=>by cases h) encloseRational_row_tie rfl ⟨rfl,rfl⟩ QCY rfl
  (fun f fn hf hfn=>by
   obtain rfl:f=5:=Option.some.inj (Xa4.symm.trans hf) |>.symm
   obtain rfl:fn=Tryz.f5:=(Option.some.inj (Tryz.func5.symm.trans hfn)).symm
   exact⟨cC,fun j t ht=>by
    have hm:t∈Tryz.f5.params.toList:=by simpa using Array.mem_of_getElem? ht
    exact(show Tryz.prog.wantsStandIn t=false by simpa using List.all_eq_true.1 Xah t hm)⟩)
  Xas
#print axioms encloseRational_card_holds
end
end Go.Proofs.YtbpmnjieoncbcaaGreatDoor
