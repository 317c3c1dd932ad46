/- Whatever the input, the law answers true and leaves its input as it was. -/
import Derived.Test.YtjcphjpkimmmjaaGreatDoorE1XCs
import Derived.Test.YtjcphjpkimmmjaaGreatDoorTie
set_option linter.all false
set_option maxHeartbeats 4000000
namespace Go.Proofs.YtjcphjpkimmmjaaGreatDoor
section
open Go.RowKit Go.ChangeShapes Go.WideShapes Ig
theorem Xc6:Rows.encloseSeriesRow.wf (OpenSpec.ofChange Rows.encloseSeriesSpec)=true:=by kernel_rfl
theorem Xc5:Tryz.f4.params.all (Tryz.checked.prog.readableRec ·)=true:=by kernel_rfl
theorem Xc4:namedTie Tryz.checked.prog Rows.encloseSeriesRow.named Rows.encloseSeriesSpec.vars=true:=by kernel_rfl
theorem Xc3:(Rows.encloseSeriesRow.stops==[])=true:=by kernel_rfl
theorem Xc2:(Tryz.checked.prog.stops==[])=true:=by kernel_rfl
theorem Xc1:(Rows.encloseSeriesRow.knobs==[])=true:=by kernel_rfl
theorem Xc0:(Tryz.checked.prog.stopKnobs==[])=true:=by kernel_rfl
theorem Xbz:(Rows.encloseSeriesRow.inPlace==Tryz.checked.prog.inPlace 4)=true:=by kernel_rfl
theorem Xby:(Rows.encloseSeriesRow.unfollowed==Tryz.checked.prog.unfollowed 4)=true:=by kernel_rfl
theorem Xbx:(Rows.encloseSeriesRow.recurses==Tryz.checked.prog.recurses 4)=true:=by kernel_rfl
theorem Xbo:(Rows.encloseSeriesRow.named==Tryz.checked.prog.varsNamed 4)=true:=by kernel_rfl
theorem Xbn:(Rows.encloseSeriesRow.maps==(Tryz.f4.params.toList++Rows.encloseSeriesSpec.plain.varTypes Tryz.checked.prog).any (Tryz.checked.prog.mapsRec ·))=true:=by kernel_rfl
theorem Xbm:(Rows.encloseSeriesRow.ifaces==(Tryz.f4.params.toList++Rows.encloseSeriesSpec.plain.varTypes Tryz.checked.prog).any (Tryz.checked.prog.ifacesRec ·))=true:=by kernel_rfl
theorem Xbk:(Rows.encloseSeriesRow.mapsOut==Tryz.checked.prog.mapsAmong Tryz.f4.resultTypes.toList)=true:=by kernel_rfl
theorem Xbj:(Rows.encloseSeriesRow.loops==(Tryz.f4.params.toList++Rows.encloseSeriesSpec.plain.varTypes Tryz.checked.prog).any (Tryz.checked.prog.loopsFrom ·))=true:=by kernel_rfl
theorem Xbi:(Rows.encloseSeriesRow.wideKeys==(Tryz.f4.params.toList++Rows.encloseSeriesSpec.plain.varTypes Tryz.checked.prog++Tryz.f4.resultTypes.toList).any (Tryz.checked.prog.wideKeysFrom ·))=true:=by kernel_rfl
theorem Xbh:Rows.encloseSeriesSpec.vars.all (Tryz.checked.prog.varReadable ·)=true:=by kernel_rfl
theorem Xbg:(Tryz.f4.resultTypes.all (fun t=>Tryz.checked.prog.readableRec t&&decide (t<Tryz.checked.prog.types.size)))=true:=by kernel_rfl
theorem Xbf:(Rows.encloseSeriesRow.ifacesOut==Tryz.f4.resultTypes.toList.any (Tryz.checked.prog.ifacesRec ·))=true:=by kernel_rfl
theorem Xbe:(Rows.encloseSeriesRow.loopsOut==Tryz.f4.resultTypes.toList.any (Tryz.checked.prog.loopsFrom ·))=true:=by kernel_rfl
theorem Xbd:Rows.encloseSeriesRow.shortTexts.isNone=true:=by kernel_rfl
theorem Xbc:(Rows.encloseSeriesRow.pinned==Rows.encloseSeriesRow.pinnedBy)=true:=by kernel_rfl
theorem Xbb:(Rows.encloseSeriesRow.veiled==(Tryz.f4.params.toList++Rows.encloseSeriesSpec.plain.varTypes Tryz.checked.prog++Tryz.f4.resultTypes.toList).any (Tryz.checked.prog.veiledRec ·))=true:=by kernel_rfl
theorem Xba:Rows.encloseSeriesRow.veiledFits Tryz.checked.prog Tryz.f4.params.toList (Tryz.f4.params.toList++Rows.encloseSeriesSpec.plain.varTypes Tryz.checked.prog++Tryz.f4.resultTypes.toList)=true:=by kernel_rfl
theorem Xab:joinedFacts Tryz.checked.prog 4 Tryz.f4 Rows.encloseSeriesSpec Rows.encloseSeriesRow=true:=by
 unfold joinedFacts
 exact Y1 (Y1 (Y1 (Y1 (Y1 (Y1 (Y1 (Y1 (Y1 (Y1 (Y1 (Y1 (Y1 (Y1 (Y1 (Y1 (Y1 (Y1 (Y1 (Y1 (Y1 (Y1 (Y1 (Y1 (Y1 (Y1 (Y1 (Y1 (Y1 (Y1 (Y1 Xc6 QC1) QCx) Xc5) Xc4) Xc3) Xc2) Xc1) Xc0) Xbz) Xby) Xbx) Xbo) Xbn) Xbm) Xbk) Xbj) Xbi) Xbh) Xbg) Xbf) Xbe) QC2) Xbd) cG) cH) QC0) QCy) (by kernel_rfl)) Xbc) Xbb) Xba
theorem Xay{H:Type}(enc:TypeId×Value→H)(os:Os):Rows.encloseSeriesSpec.preB enc Tryz.checked.prog Tryz.f4 [] false ((World.doorLaid Tryz.prog 4000 os).forCall (fun _ _=>0) ⟨#[],#[.agg #[.slice none 0 0,.slice none 0 0,.slice none 0 0],.agg #[.string ⟨#[]⟩,.string ⟨#[]⟩],.agg #[.slice none 0 0,.int .i64 0]],[]⟩).memory #[.agg #[.slice none 0 0,.slice none 0 0,.slice none 0 0],.agg #[.string ⟨#[]⟩,.string ⟨#[]⟩],.agg #[.slice none 0 0,.int .i64 0]] 8=true:=by kernel_rfl
theorem Xai{H:Type}(enc:TypeId×Value→H)(os:Os):Rows.encloseSeriesSpec.sizedB enc Tryz.checked.prog Tryz.f4 false ((World.doorLaid Tryz.prog 4000 os).forCall (fun _ _=>0) ⟨#[],#[.agg #[.slice none 0 0,.slice none 0 0,.slice none 0 0],.agg #[.string ⟨#[]⟩,.string ⟨#[]⟩],.agg #[.slice none 0 0,.int .i64 0]],[]⟩).memory #[.agg #[.slice none 0 0,.slice none 0 0,.slice none 0 0],.agg #[.string ⟨#[]⟩,.string ⟨#[]⟩],.agg #[.slice none 0 0,.int .i64 0]] 8=true:=by kernel_rfl
theorem Xaz(os:Os):Input.okWideB Tryz.checked.prog ((World.doorLaid Tryz.prog 4000 os).forCall (fun _ _=>0) ⟨#[],#[.agg #[.slice none 0 0,.slice none 0 0,.slice none 0 0],.agg #[.string ⟨#[]⟩,.string ⟨#[]⟩],.agg #[.slice none 0 0,.int .i64 0]],[]⟩) 4 ⟨#[],#[.agg #[.slice none 0 0,.slice none 0 0,.slice none 0 0],.agg #[.string ⟨#[]⟩,.string ⟨#[]⟩],.agg #[.slice none 0 0,.int .i64 0]],[]⟩=true:=by kernel_rfl
theorem Xa9(os:Os):((World.doorLaid Tryz.prog 4000 os).forCall (fun _ _=>0) ⟨#[],#[.agg #[.slice none 0 0,.slice none 0 0,.slice none 0 0],.agg #[.string ⟨#[]⟩,.string ⟨#[]⟩],.agg #[.slice none 0 0,.int .i64 0]],[]⟩).Shaped Tryz.checked.prog:=World.shaped_of_RefB (by kernel_rfl) (by kernel_rfl)
theorem Xb0:Tryz.prog.inits.idxOf? 4=none:=by kernel_rfl
theorem Xao:(Tryz.f4.params.toList.all fun t=>Tryz.prog.readableRec t&&decide (t<Tryz.prog.types.size))=true:=by kernel_rfl
set_option maxRecDepth 100000 in
theorem Xaa(os:Os)(started:os.Started)(H:Type)(enc:TypeId×Value→H):
  ReturnsInHanded {} Tryz.checked os 4 .any (fun w args=>(Rows.encloseSeriesSpec.pre enc Tryz.prog Tryz.f4 [] false w args∧laidMetH Tryz.prog TH w)∧sizedMet enc Tryz.prog Tryz.f4 (OpenSpec.ofChange Rows.encloseSeriesSpec) false w args)
   (Rows.encloseSeriesSpec.post enc Tryz.prog Tryz.f4 false true false false):=by
 refine z8 os started enc Tryz.func4 Xb0 rfl (fun ds h=>?_) rfl Xao
  (ChangeSpec.witness_shaped (enc:=enc) (C:=Tryz.checked) (os:=os) (X:=fun w _=>laidMetH Tryz.prog TH w) false (World.doorLaid Tryz.prog 4000 os) #[.agg #[.slice none 0 0,.slice none 0 0,.slice none 0 0],.agg #[.string ⟨#[]⟩,.string ⟨#[]⟩],.agg #[.slice none 0 0,.int .i64 0]] 8 rfl (Xa9 os) (Xaz os) (Xay enc os) (Xai enc os) (QAB os _)) ?_
 ·match ds,h with
  |[d1,d2,d3],_=>rfl
 ·intro W base args ds ps hval hA hF hG
  have hval:∀(j:Nat) t v,(#[38,40,42]:Array TypeId)[j]?=some t→args[j]?=some v→Value.okWide Tryz.prog W .any base t v:=hval
  have hA:DataW.TrodAll enc Tryz.prog W 0 (fun _=>true) true [38,40,42] args.toList ds ps:=hA
  obtain⟨v0,v1,v2,d0,d1,d2,p0,p1,p2,rfl,rfl,rfl,h0,h1,h2⟩:=trodAll_three hA
  obtain⟨y,rfl,hy,hl⟩:=QEz (hval 0 _ _ rfl rfl) h0
  obtain⟨lo,hi,rfl⟩:=vV (hval 1 _ _ rfl rfl) h1
  obtain⟨r,l,o,rfl,hx,hn⟩:=Xb9 (hval 2 _ _ rfl rfl) h2
  exact Xbs (t:=(lo,hi)) hF hG hy hl hx hn
theorem Xa3:Tryz.prog.funcNamed "integraph/integraphlaw08.EncloseSeries" = some 4:=by kernel_rfl
theorem Xap:Tryz.f4.isInstance Tryz.checked.prog Rows.encloseSeriesRow.origin Rows.encloseSeriesRow.targs:=wi (by kernel_rfl)
theorem Xan:Tryz.f4.isWrapper Tryz.checked.prog Rows.encloseSeriesRow.wrapper Rows.encloseSeriesRow.mainSum:=by unfold Func.isWrapper;first | (rw[if_pos (by decide +kernel)];kernel_rfl) | (rw[if_neg (by decide +kernel)];exact⟨rfl,rfl⟩)
theorem encloseSeries_holds:Rows.EncloseSeriesSaid :=
 OpenClaim.holds_of_wide 4 Tryz.f4 rfl rfl rfl rfl rfl rfl rfl ⟨rfl,rfl,rfl,rfl,rfl⟩ rfl rfl rfl rfl rfl Xa3 Tryz.func4 Xab Xap Xan
  (fun os started H enc _=>Xaa os started H enc)
theorem Xac:Rows.encloseSeriesRow.wfByText (OpenSpec.ofChange Rows.encloseSeriesSpec)=true:=by kernel_rfl
theorem Xah:(Tryz.f4.params.toList.all fun u=>!Tryz.prog.wantsStandIn u)=true:=by kernel_rfl
theorem Xaq:false=Rows.encloseSeriesRow.goesBy Tryz.checked.prog:=by kernel_rfl
theorem encloseSeries_card_holds:Rows.EncloseSeriesCardSaid :=
 Claim7.holds_tied_plain_at .later [] [.data,.data,.data,.sentinel,.sentinel] true (true, "cf78c4e6c1ac7b9d94aed50302f1e7380b4c017140f2ae4993d9de171b50ee1d") true
  encloseSeries_holds (fun _ h=>by cases h) Xac (fun _ h=>by cases h) encloseSeries_row_tie rfl ⟨rfl,rfl⟩ QCz rfl
  (fun f fn hf hfn=>by
   obtain rfl:f=4:=Option.some.inj (Xa3.symm.trans hf) |>.symm
   obtain rfl:fn=Tryz.f4:=(Option.some.inj (Tryz.func4.symm.trans hfn)).symm
   exact⟨cF,fun j t ht=>by
    have hm:t∈Tryz.f4.params.toList:=by simpa using Array.mem_of_getElem? ht
    exact(show Tryz.prog.wantsStandIn t=false by simpa using List.all_eq_true.1 Xah t hm)⟩)
  Xaq
#print axioms encloseSeries_card_holds
end
end Go.Proofs.YtjcphjpkimmmjaaGreatDoor
