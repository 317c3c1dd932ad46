/- Whatever the input, the law answers true and leaves its input as it was. -/
import Derived.Test.YtjcphjpkimmmjaaGreatDoorE1XCq
import Derived.Test.YtjcphjpkimmmjaaGreatDoorTie
set_option linter.all false
set_option maxHeartbeats 4000000
namespace Go.Proofs.YtjcphjpkimmmjaaGreatDoor
section
open Go.RowKit Go.ChangeShapes Go.WideShapes Ig
theorem Xgx:Rows.encloseChecksRow.wf (OpenSpec.ofChange Rows.encloseChecksSpec)=true:=by kernel_rfl
theorem Xgw:Tryz.f9.params.all (Tryz.checked.prog.readableRec ·)=true:=by kernel_rfl
theorem Xgv:namedTie Tryz.checked.prog Rows.encloseChecksRow.named Rows.encloseChecksSpec.vars=true:=by kernel_rfl
theorem Xgu:(Rows.encloseChecksRow.stops==[])=true:=by kernel_rfl
theorem Xgt:(Tryz.checked.prog.stops==[])=true:=by kernel_rfl
theorem Xgs:(Rows.encloseChecksRow.knobs==[])=true:=by kernel_rfl
theorem Xgr:(Tryz.checked.prog.stopKnobs==[])=true:=by kernel_rfl
theorem Xgq:(Rows.encloseChecksRow.inPlace==Tryz.checked.prog.inPlace 9)=true:=by kernel_rfl
theorem Xgp:(Rows.encloseChecksRow.unfollowed==Tryz.checked.prog.unfollowed 9)=true:=by kernel_rfl
theorem Xgo:(Rows.encloseChecksRow.recurses==Tryz.checked.prog.recurses 9)=true:=by kernel_rfl
theorem Xge:(Rows.encloseChecksRow.named==Tryz.checked.prog.varsNamed 9)=true:=by kernel_rfl
theorem Xgd:(Rows.encloseChecksRow.maps==(Tryz.f9.params.toList++Rows.encloseChecksSpec.plain.varTypes Tryz.checked.prog).any (Tryz.checked.prog.mapsRec ·))=true:=by kernel_rfl
theorem Xgc:(Rows.encloseChecksRow.ifaces==(Tryz.f9.params.toList++Rows.encloseChecksSpec.plain.varTypes Tryz.checked.prog).any (Tryz.checked.prog.ifacesRec ·))=true:=by kernel_rfl
theorem Xgb:(Rows.encloseChecksRow.mapsOut==Tryz.checked.prog.mapsAmong Tryz.f9.resultTypes.toList)=true:=by kernel_rfl
theorem Xga:(Rows.encloseChecksRow.loops==(Tryz.f9.params.toList++Rows.encloseChecksSpec.plain.varTypes Tryz.checked.prog).any (Tryz.checked.prog.loopsFrom ·))=true:=by kernel_rfl
theorem Xg9:(Rows.encloseChecksRow.wideKeys==(Tryz.f9.params.toList++Rows.encloseChecksSpec.plain.varTypes Tryz.checked.prog++Tryz.f9.resultTypes.toList).any (Tryz.checked.prog.wideKeysFrom ·))=true:=by kernel_rfl
theorem Xg8:Rows.encloseChecksSpec.vars.all (Tryz.checked.prog.varReadable ·)=true:=by kernel_rfl
theorem Xg7:(Tryz.f9.resultTypes.all (fun t=>Tryz.checked.prog.readableRec t&&decide (t<Tryz.checked.prog.types.size)))=true:=by kernel_rfl
theorem Xg6:(Rows.encloseChecksRow.ifacesOut==Tryz.f9.resultTypes.toList.any (Tryz.checked.prog.ifacesRec ·))=true:=by kernel_rfl
theorem Xg5:(Rows.encloseChecksRow.loopsOut==Tryz.f9.resultTypes.toList.any (Tryz.checked.prog.loopsFrom ·))=true:=by kernel_rfl
theorem Xg4:Rows.encloseChecksRow.shortTexts.isNone=true:=by kernel_rfl
theorem Xg3:(Rows.encloseChecksRow.pinned==Rows.encloseChecksRow.pinnedBy)=true:=by kernel_rfl
theorem Xg2:(Rows.encloseChecksRow.veiled==(Tryz.f9.params.toList++Rows.encloseChecksSpec.plain.varTypes Tryz.checked.prog++Tryz.f9.resultTypes.toList).any (Tryz.checked.prog.veiledRec ·))=true:=by kernel_rfl
theorem Xg1:Rows.encloseChecksRow.veiledFits Tryz.checked.prog Tryz.f9.params.toList (Tryz.f9.params.toList++Rows.encloseChecksSpec.plain.varTypes Tryz.checked.prog++Tryz.f9.resultTypes.toList)=true:=by kernel_rfl
theorem Xfe:joinedFacts Tryz.checked.prog 9 Tryz.f9 Rows.encloseChecksSpec Rows.encloseChecksRow=true:=by
 unfold joinedFacts
 exact Y1 (Y1 (Y1 (Y1 (Y1 (Y1 (Y1 (Y1 (Y1 (Y1 (Y1 (Y1 (Y1 (Y1 (Y1 (Y1 (Y1 (Y1 (Y1 (Y1 (Y1 (Y1 (Y1 (Y1 (Y1 (Y1 (Y1 (Y1 (Y1 (Y1 (Y1 Xgx QC1) QCx) Xgw) Xgv) Xgu) Xgt) Xgs) Xgr) Xgq) Xgp) Xgo) Xge) Xgd) Xgc) Xgb) Xga) Xg9) Xg8) Xg7) Xg6) Xg5) QC2) Xg4) cG) cH) QC0) QCy) (by kernel_rfl)) Xg3) Xg2) Xg1
theorem Xfw{H:Type}(enc:TypeId×Value→H)(os:Os):Rows.encloseChecksSpec.preB enc Tryz.checked.prog Tryz.f9 [] false ((World.doorLaid Tryz.prog 4000 os).forCall (fun _ _=>0) ⟨#[],#[.agg #[.slice none 0 0,.slice none 0 0,.slice none 0 0],.slice none 0 0,.int .i64 0],[]⟩).memory #[.agg #[.slice none 0 0,.slice none 0 0,.slice none 0 0],.slice none 0 0,.int .i64 0] 8=true:=by kernel_rfl
theorem Xfj{H:Type}(enc:TypeId×Value→H)(os:Os):Rows.encloseChecksSpec.sizedB enc Tryz.checked.prog Tryz.f9 false ((World.doorLaid Tryz.prog 4000 os).forCall (fun _ _=>0) ⟨#[],#[.agg #[.slice none 0 0,.slice none 0 0,.slice none 0 0],.slice none 0 0,.int .i64 0],[]⟩).memory #[.agg #[.slice none 0 0,.slice none 0 0,.slice none 0 0],.slice none 0 0,.int .i64 0] 8=true:=by kernel_rfl
theorem Xfx(os:Os):Input.okWideB Tryz.checked.prog ((World.doorLaid Tryz.prog 4000 os).forCall (fun _ _=>0) ⟨#[],#[.agg #[.slice none 0 0,.slice none 0 0,.slice none 0 0],.slice none 0 0,.int .i64 0],[]⟩) 9 ⟨#[],#[.agg #[.slice none 0 0,.slice none 0 0,.slice none 0 0],.slice none 0 0,.int .i64 0],[]⟩=true:=by kernel_rfl
theorem Xfc(os:Os):((World.doorLaid Tryz.prog 4000 os).forCall (fun _ _=>0) ⟨#[],#[.agg #[.slice none 0 0,.slice none 0 0,.slice none 0 0],.slice none 0 0,.int .i64 0],[]⟩).Shaped Tryz.checked.prog:=World.shaped_of_RefB (by kernel_rfl) (by kernel_rfl)
theorem Xfy:Tryz.prog.inits.idxOf? 9=none:=by kernel_rfl
theorem Xfp:(Tryz.f9.params.toList.all fun t=>Tryz.prog.readableRec t&&decide (t<Tryz.prog.types.size))=true:=by kernel_rfl
set_option maxRecDepth 100000 in
theorem Xfd(os:Os)(started:os.Started)(H:Type)(enc:TypeId×Value→H):
  ReturnsInHanded {} Tryz.checked os 9 .any (fun w args=>(Rows.encloseChecksSpec.pre enc Tryz.prog Tryz.f9 [] false w args∧laidMetH Tryz.prog TH w)∧sizedMet enc Tryz.prog Tryz.f9 (OpenSpec.ofChange Rows.encloseChecksSpec) false w args)
   (Rows.encloseChecksSpec.post enc Tryz.prog Tryz.f9 false true false false):=by
 refine z8 os started enc Tryz.func9 Xfy rfl (fun ds h=>?_) rfl Xfp
  (ChangeSpec.witness_shaped (enc:=enc) (C:=Tryz.checked) (os:=os) (X:=fun w _=>laidMetH Tryz.prog TH w) false (World.doorLaid Tryz.prog 4000 os) #[.agg #[.slice none 0 0,.slice none 0 0,.slice none 0 0],.slice none 0 0,.int .i64 0] 8 rfl (Xfc os) (Xfx os) (Xfw enc os) (Xfj enc os) (QAB os _)) ?_
 ·match ds,h with
  |[d1,d2,d3],_=>rfl
 ·intro W base args ds ps hval hA hF hG
  have hval:∀(j:Nat) t v,(#[38,77,3]:Array TypeId)[j]?=some t→args[j]?=some v→Value.okWide Tryz.prog W .any base t v:=hval
  have hA:DataW.TrodAll enc Tryz.prog W 0 (fun _=>true) true [38,77,3] args.toList ds ps:=hA
  obtain⟨v0,v1,v2,d0,d1,d2,p0,p1,p2,rfl,rfl,rfl,h0,h1,h2⟩:=trodAll_three hA
  obtain⟨y,rfl,hy,hl⟩:=QEz (hval 0 _ _ rfl rfl) h0
  obtain⟨r,tb,rfl,hx,hn,hz⟩:=Xgk (hval 1 _ _ rfl rfl) h1
  obtain⟨n,rfl,hn2⟩:=Xh4 QGy (hval 2 _ _ rfl rfl) h2
  exact Xh7 hF hG hy hl hx hn hz
theorem Xf5:Tryz.prog.funcNamed "integraph/integraphlaw08.EncloseChecks" = some 9:=by kernel_rfl
theorem Xfq:Tryz.f9.isInstance Tryz.checked.prog Rows.encloseChecksRow.origin Rows.encloseChecksRow.targs:=wi (by kernel_rfl)
theorem Xfo:Tryz.f9.isWrapper Tryz.checked.prog Rows.encloseChecksRow.wrapper Rows.encloseChecksRow.mainSum:=by unfold Func.isWrapper;first | (rw[if_pos (by decide +kernel)];kernel_rfl) | (rw[if_neg (by decide +kernel)];exact⟨rfl,rfl⟩)
theorem encloseChecks_holds:Rows.EncloseChecksSaid :=
 OpenClaim.holds_of_wide 9 Tryz.f9 rfl rfl rfl rfl rfl rfl rfl ⟨rfl,rfl,rfl,rfl,rfl⟩ rfl rfl rfl rfl rfl Xf5 Tryz.func9 Xfe Xfq Xfo
  (fun os started H enc _=>Xfd os started H enc)
theorem Xff:Rows.encloseChecksRow.wfByText (OpenSpec.ofChange Rows.encloseChecksSpec)=true:=by kernel_rfl
theorem Xfi:(Tryz.f9.params.toList.all fun u=>!Tryz.prog.wantsStandIn u)=true:=by kernel_rfl
theorem Xfr:false=Rows.encloseChecksRow.goesBy Tryz.checked.prog:=by kernel_rfl
theorem encloseChecks_card_holds:Rows.EncloseChecksCardSaid :=
 Claim7.holds_tied_plain_at .later [] [.data,.data,.data,.sentinel,.sentinel] true (true, "cf78c4e6c1ac7b9d94aed50302f1e7380b4c017140f2ae4993d9de171b50ee1d") true
  encloseChecks_holds (fun _ h=>by cases h) Xff (fun _ h=>by cases h) encloseChecks_row_tie rfl ⟨rfl,rfl⟩ QCz rfl
  (fun f fn hf hfn=>by
   obtain rfl:f=9:=Option.some.inj (Xf5.symm.trans hf) |>.symm
   obtain rfl:fn=Tryz.f9:=(Option.some.inj (Tryz.func9.symm.trans hfn)).symm
   exact⟨cF,fun j t ht=>by
    have hm:t∈Tryz.f9.params.toList:=by simpa using Array.mem_of_getElem? ht
    exact(show Tryz.prog.wantsStandIn t=false by simpa using List.all_eq_true.1 Xfi t hm)⟩)
  Xfr
#print axioms encloseChecks_card_holds
end
end Go.Proofs.YtjcphjpkimmmjaaGreatDoor
