/- Whatever the input, the law answers true and leaves its input as it was. -/
import Derived.Test.YtjcphjpkimmmjaaGreatDoorE1XCt
import Derived.Test.YtjcphjpkimmmjaaGreatDoorTie
set_option linter.all false
set_option maxHeartbeats 4000000
namespace Go.Proofs.YtjcphjpkimmmjaaGreatDoor
section
open Go.RowKit Go.ChangeShapes Go.WideShapes Ig
theorem QDt:Rows.encloseBoundsRow.wf (OpenSpec.ofChange Rows.encloseBoundsSpec)=true:=by kernel_rfl
theorem QDs:Tryz.f6.params.all (Tryz.checked.prog.readableRec ·)=true:=by kernel_rfl
theorem QDr:namedTie Tryz.checked.prog Rows.encloseBoundsRow.named Rows.encloseBoundsSpec.vars=true:=by kernel_rfl
theorem QDq:(Rows.encloseBoundsRow.stops==[])=true:=by kernel_rfl
theorem QDp:(Tryz.checked.prog.stops==[])=true:=by kernel_rfl
theorem QDo:(Rows.encloseBoundsRow.knobs==[])=true:=by kernel_rfl
theorem QDn:(Tryz.checked.prog.stopKnobs==[])=true:=by kernel_rfl
theorem QDm:(Rows.encloseBoundsRow.inPlace==Tryz.checked.prog.inPlace 6)=true:=by kernel_rfl
theorem QDl:(Rows.encloseBoundsRow.unfollowed==Tryz.checked.prog.unfollowed 6)=true:=by kernel_rfl
theorem QDk:(Rows.encloseBoundsRow.recurses==Tryz.checked.prog.recurses 6)=true:=by kernel_rfl
theorem QB3:(Rows.encloseBoundsRow.named==Tryz.checked.prog.varsNamed 6)=true:=by kernel_rfl
theorem QB2:(Rows.encloseBoundsRow.maps==(Tryz.f6.params.toList++Rows.encloseBoundsSpec.plain.varTypes Tryz.checked.prog).any (Tryz.checked.prog.mapsRec ·))=true:=by kernel_rfl
theorem QB1:(Rows.encloseBoundsRow.ifaces==(Tryz.f6.params.toList++Rows.encloseBoundsSpec.plain.varTypes Tryz.checked.prog).any (Tryz.checked.prog.ifacesRec ·))=true:=by kernel_rfl
theorem QB0:(Rows.encloseBoundsRow.mapsOut==Tryz.checked.prog.mapsAmong Tryz.f6.resultTypes.toList)=true:=by kernel_rfl
theorem QBz:(Rows.encloseBoundsRow.loops==(Tryz.f6.params.toList++Rows.encloseBoundsSpec.plain.varTypes Tryz.checked.prog).any (Tryz.checked.prog.loopsFrom ·))=true:=by kernel_rfl
theorem QBy:(Rows.encloseBoundsRow.wideKeys==(Tryz.f6.params.toList++Rows.encloseBoundsSpec.plain.varTypes Tryz.checked.prog++Tryz.f6.resultTypes.toList).any (Tryz.checked.prog.wideKeysFrom ·))=true:=by kernel_rfl
theorem QBx:Rows.encloseBoundsSpec.vars.all (Tryz.checked.prog.varReadable ·)=true:=by kernel_rfl
theorem QBw:(Tryz.f6.resultTypes.all (fun t=>Tryz.checked.prog.readableRec t&&decide (t<Tryz.checked.prog.types.size)))=true:=by kernel_rfl
theorem QBv:(Rows.encloseBoundsRow.ifacesOut==Tryz.f6.resultTypes.toList.any (Tryz.checked.prog.ifacesRec ·))=true:=by kernel_rfl
theorem QBu:(Rows.encloseBoundsRow.loopsOut==Tryz.f6.resultTypes.toList.any (Tryz.checked.prog.loopsFrom ·))=true:=by kernel_rfl
theorem QBt:Rows.encloseBoundsRow.shortTexts.isNone=true:=by kernel_rfl
theorem QBs:(Rows.encloseBoundsRow.pinned==Rows.encloseBoundsRow.pinnedBy)=true:=by kernel_rfl
theorem QBr:(Rows.encloseBoundsRow.veiled==(Tryz.f6.params.toList++Rows.encloseBoundsSpec.plain.varTypes Tryz.checked.prog++Tryz.f6.resultTypes.toList).any (Tryz.checked.prog.veiledRec ·))=true:=by kernel_rfl
theorem QBq:Rows.encloseBoundsRow.veiledFits Tryz.checked.prog Tryz.f6.params.toList (Tryz.f6.params.toList++Rows.encloseBoundsSpec.plain.varTypes Tryz.checked.prog++Tryz.f6.resultTypes.toList)=true:=by kernel_rfl
theorem yH:joinedFacts Tryz.checked.prog 6 Tryz.f6 Rows.encloseBoundsSpec Rows.encloseBoundsRow=true:=by
 unfold joinedFacts
 exact Y1 (Y1 (Y1 (Y1 (Y1 (Y1 (Y1 (Y1 (Y1 (Y1 (Y1 (Y1 (Y1 (Y1 (Y1 (Y1 (Y1 (Y1 (Y1 (Y1 (Y1 (Y1 (Y1 (Y1 (Y1 (Y1 (Y1 (Y1 (Y1 (Y1 (Y1 QDt QC1) QCx) QDs) QDr) QDq) QDp) QDo) QDn) QDm) QDl) QDk) QB3) QB2) QB1) QB0) QBz) QBy) QBx) QBw) QBv) QBu) QC2) QBt) cG) cH) QC0) QCy) (by kernel_rfl)) QBs) QBr) QBq
theorem cd{H:Type}(enc:TypeId×Value→H)(os:Os):Rows.encloseBoundsSpec.preB enc Tryz.checked.prog Tryz.f6 [] false ((World.doorLaid Tryz.prog 4000 os).forCall (fun _ _=>0) ⟨#[],#[.agg #[.slice none 0 0,.slice none 0 0,.slice none 0 0],.agg #[.string ⟨#[]⟩,.string ⟨#[]⟩],.slice none 0 0],[]⟩).memory #[.agg #[.slice none 0 0,.slice none 0 0,.slice none 0 0],.agg #[.string ⟨#[]⟩,.string ⟨#[]⟩],.slice none 0 0] 8=true:=by kernel_rfl
theorem ku{H:Type}(enc:TypeId×Value→H)(os:Os):Rows.encloseBoundsSpec.sizedB enc Tryz.checked.prog Tryz.f6 false ((World.doorLaid Tryz.prog 4000 os).forCall (fun _ _=>0) ⟨#[],#[.agg #[.slice none 0 0,.slice none 0 0,.slice none 0 0],.agg #[.string ⟨#[]⟩,.string ⟨#[]⟩],.slice none 0 0],[]⟩).memory #[.agg #[.slice none 0 0,.slice none 0 0,.slice none 0 0],.agg #[.string ⟨#[]⟩,.string ⟨#[]⟩],.slice none 0 0] 8=true:=by kernel_rfl
theorem cg(os:Os):Input.okWideB Tryz.checked.prog ((World.doorLaid Tryz.prog 4000 os).forCall (fun _ _=>0) ⟨#[],#[.agg #[.slice none 0 0,.slice none 0 0,.slice none 0 0],.agg #[.string ⟨#[]⟩,.string ⟨#[]⟩],.slice none 0 0],[]⟩) 6 ⟨#[],#[.agg #[.slice none 0 0,.slice none 0 0,.slice none 0 0],.agg #[.string ⟨#[]⟩,.string ⟨#[]⟩],.slice none 0 0],[]⟩=true:=by kernel_rfl
theorem yF(os:Os):((World.doorLaid Tryz.prog 4000 os).forCall (fun _ _=>0) ⟨#[],#[.agg #[.slice none 0 0,.slice none 0 0,.slice none 0 0],.agg #[.string ⟨#[]⟩,.string ⟨#[]⟩],.slice none 0 0],[]⟩).Shaped Tryz.checked.prog:=World.shaped_of_RefB (by kernel_rfl) (by kernel_rfl)
theorem cj:Tryz.prog.inits.idxOf? 6=none:=by kernel_rfl
theorem pE:(Tryz.f6.params.toList.all fun t=>Tryz.prog.readableRec t&&decide (t<Tryz.prog.types.size))=true:=by kernel_rfl
set_option maxRecDepth 100000 in
theorem yG(os:Os)(started:os.Started)(H:Type)(enc:TypeId×Value→H):
  ReturnsInHanded {} Tryz.checked os 6 .any (fun w args=>(Rows.encloseBoundsSpec.pre enc Tryz.prog Tryz.f6 [] false w args∧laidMetH Tryz.prog TH w)∧sizedMet enc Tryz.prog Tryz.f6 (OpenSpec.ofChange Rows.encloseBoundsSpec) false w args)
   (Rows.encloseBoundsSpec.post enc Tryz.prog Tryz.f6 false true false false):=by
 refine z8 os started enc Tryz.func6 cj rfl (fun ds h=>?_) rfl pE
  (ChangeSpec.witness_shaped (enc:=enc) (C:=Tryz.checked) (os:=os) (X:=fun w _=>laidMetH Tryz.prog TH w) false (World.doorLaid Tryz.prog 4000 os) #[.agg #[.slice none 0 0,.slice none 0 0,.slice none 0 0],.agg #[.string ⟨#[]⟩,.string ⟨#[]⟩],.slice none 0 0] 8 rfl (yF os) (cg os) (cd enc os) (ku enc os) (QAB os _)) ?_
 ·match ds,h with
  |[d1,d2,d3],_=>rfl
 ·intro W base args ds ps hval hA hF hG
  have hval:∀(j:Nat) t v,(#[38,40,36]:Array TypeId)[j]?=some t→args[j]?=some v→Value.okWide Tryz.prog W .any base t v:=hval
  have hA:DataW.TrodAll enc Tryz.prog W 0 (fun _=>true) true [38,40,36] args.toList ds ps:=hA
  obtain⟨v0,v1,v2,d0,d1,d2,p0,p1,p2,rfl,rfl,rfl,h0,h1,h2⟩:=trodAll_three hA
  obtain⟨y,rfl,hy,hl⟩:=QEz (hval 0 _ _ rfl rfl) h0
  obtain⟨lo,hi,rfl⟩:=vV (hval 1 _ _ rfl rfl) h1
  obtain⟨r,l,rfl,hx,hn⟩:=QE0 (hval 2 _ _ rfl rfl) h2
  exact QFf (t:=(lo,hi)) hF hG hy hl hx hn
theorem Ix:Tryz.prog.funcNamed "integraph/integraphlaw08.EncloseBounds" = some 6:=by kernel_rfl
theorem pF:Tryz.f6.isInstance Tryz.checked.prog Rows.encloseBoundsRow.origin Rows.encloseBoundsRow.targs:=wi (by kernel_rfl)
theorem pD:Tryz.f6.isWrapper Tryz.checked.prog Rows.encloseBoundsRow.wrapper Rows.encloseBoundsRow.mainSum:=by unfold Func.isWrapper;first | (rw[if_pos (by decide +kernel)];kernel_rfl) | (rw[if_neg (by decide +kernel)];exact⟨rfl,rfl⟩)
theorem encloseBounds_holds:Rows.EncloseBoundsSaid :=
 OpenClaim.holds_of_wide 6 Tryz.f6 rfl rfl rfl rfl rfl rfl rfl ⟨rfl,rfl,rfl,rfl,rfl⟩ rfl rfl rfl rfl rfl Ix Tryz.func6 yH pF pD
  (fun os started H enc _=>yG os started H enc)
theorem yI:Rows.encloseBoundsRow.wfByText (OpenSpec.ofChange Rows.encloseBoundsSpec)=true:=by kernel_rfl
theorem kq:(Tryz.f6.params.toList.all fun u=>!Tryz.prog.wantsStandIn u)=true:=by kernel_rfl
theorem pG:false=Rows.encloseBoundsRow.goesBy Tryz.checked.prog:=by kernel_rfl
theorem encloseBounds_card_holds:Rows.EncloseBoundsCardSaid :=
 Claim7.holds_tied_plain_at .later [] [.data,.data,.data,.sentinel,.sentinel] true (true, "cf78c4e6c1ac7b9d94aed50302f1e7380b4c017140f2ae4993d9de171b50ee1d") true
  encloseBounds_holds (fun _ h=>by cases h) yI (fun _ h=>by cases h) encloseBounds_row_tie rfl ⟨rfl,rfl⟩ QCz rfl
  (fun f fn hf hfn=>by
   obtain rfl:f=6:=Option.some.inj (Ix.symm.trans hf) |>.symm
   obtain rfl:fn=Tryz.f6:=(Option.some.inj (Tryz.func6.symm.trans hfn)).symm
   exact⟨cF,fun j t ht=>by
    have hm:t∈Tryz.f6.params.toList:=by simpa using Array.mem_of_getElem? ht
    exact(show Tryz.prog.wantsStandIn t=false by simpa using List.all_eq_true.1 kq t hm)⟩)
  pG
#print axioms encloseBounds_card_holds
end
end Go.Proofs.YtjcphjpkimmmjaaGreatDoor
