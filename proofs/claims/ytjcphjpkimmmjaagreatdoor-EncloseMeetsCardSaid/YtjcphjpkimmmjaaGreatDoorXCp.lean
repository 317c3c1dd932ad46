/- Whatever the input, the law answers true and leaves its input as it was. -/
import Derived.Test.YtjcphjpkimmmjaaGreatDoorE1XCp
import Derived.Test.YtjcphjpkimmmjaaGreatDoorTie
set_option linter.all false
set_option maxHeartbeats 4000000
namespace Go.Proofs.YtjcphjpkimmmjaaGreatDoor
section
open Go.RowKit Go.ChangeShapes Go.WideShapes Ig
theorem Xjm:Rows.encloseMeetsRow.wf (OpenSpec.ofChange Rows.encloseMeetsSpec)=true:=by kernel_rfl
theorem Xjk:Tryz.f10.params.all (Tryz.checked.prog.readableRec ·)=true:=by kernel_rfl
theorem Xjj:namedTie Tryz.checked.prog Rows.encloseMeetsRow.named Rows.encloseMeetsSpec.vars=true:=by kernel_rfl
theorem Xji:(Rows.encloseMeetsRow.stops==[])=true:=by kernel_rfl
theorem Xjh:(Tryz.checked.prog.stops==[])=true:=by kernel_rfl
theorem Xjg:(Rows.encloseMeetsRow.knobs==[])=true:=by kernel_rfl
theorem Xjf:(Tryz.checked.prog.stopKnobs==[])=true:=by kernel_rfl
theorem Xje:(Rows.encloseMeetsRow.inPlace==Tryz.checked.prog.inPlace 10)=true:=by kernel_rfl
theorem Xjd:(Rows.encloseMeetsRow.unfollowed==Tryz.checked.prog.unfollowed 10)=true:=by kernel_rfl
theorem Xjc:(Rows.encloseMeetsRow.recurses==Tryz.checked.prog.recurses 10)=true:=by kernel_rfl
theorem Xj8:(Rows.encloseMeetsRow.named==Tryz.checked.prog.varsNamed 10)=true:=by kernel_rfl
theorem Xj7:(Rows.encloseMeetsRow.maps==(Tryz.f10.params.toList++Rows.encloseMeetsSpec.plain.varTypes Tryz.checked.prog).any (Tryz.checked.prog.mapsRec ·))=true:=by kernel_rfl
theorem Xj6:(Rows.encloseMeetsRow.ifaces==(Tryz.f10.params.toList++Rows.encloseMeetsSpec.plain.varTypes Tryz.checked.prog).any (Tryz.checked.prog.ifacesRec ·))=true:=by kernel_rfl
theorem Xj5:(Rows.encloseMeetsRow.mapsOut==Tryz.checked.prog.mapsAmong Tryz.f10.resultTypes.toList)=true:=by kernel_rfl
theorem Xj4:(Rows.encloseMeetsRow.loops==(Tryz.f10.params.toList++Rows.encloseMeetsSpec.plain.varTypes Tryz.checked.prog).any (Tryz.checked.prog.loopsFrom ·))=true:=by kernel_rfl
theorem Xj3:(Rows.encloseMeetsRow.wideKeys==(Tryz.f10.params.toList++Rows.encloseMeetsSpec.plain.varTypes Tryz.checked.prog++Tryz.f10.resultTypes.toList).any (Tryz.checked.prog.wideKeysFrom ·))=true:=by kernel_rfl
theorem Xj2:Rows.encloseMeetsSpec.vars.all (Tryz.checked.prog.varReadable ·)=true:=by kernel_rfl
theorem Xj1:(Tryz.f10.resultTypes.all (fun t=>Tryz.checked.prog.readableRec t&&decide (t<Tryz.checked.prog.types.size)))=true:=by kernel_rfl
theorem Xj0:(Rows.encloseMeetsRow.ifacesOut==Tryz.f10.resultTypes.toList.any (Tryz.checked.prog.ifacesRec ·))=true:=by kernel_rfl
theorem Xiz:(Rows.encloseMeetsRow.loopsOut==Tryz.f10.resultTypes.toList.any (Tryz.checked.prog.loopsFrom ·))=true:=by kernel_rfl
theorem Xiy:Rows.encloseMeetsRow.shortTexts.isNone=true:=by kernel_rfl
theorem Xix:(Rows.encloseMeetsRow.pinned==Rows.encloseMeetsRow.pinnedBy)=true:=by kernel_rfl
theorem Xiw:(Rows.encloseMeetsRow.veiled==(Tryz.f10.params.toList++Rows.encloseMeetsSpec.plain.varTypes Tryz.checked.prog++Tryz.f10.resultTypes.toList).any (Tryz.checked.prog.veiledRec ·))=true:=by kernel_rfl
theorem Xiv:Rows.encloseMeetsRow.veiledFits Tryz.checked.prog Tryz.f10.params.toList (Tryz.f10.params.toList++Rows.encloseMeetsSpec.plain.varTypes Tryz.checked.prog++Tryz.f10.resultTypes.toList)=true:=by kernel_rfl
theorem Xi0:joinedFacts Tryz.checked.prog 10 Tryz.f10 Rows.encloseMeetsSpec Rows.encloseMeetsRow=true:=by
 unfold joinedFacts
 exact Y1 (Y1 (Y1 (Y1 (Y1 (Y1 (Y1 (Y1 (Y1 (Y1 (Y1 (Y1 (Y1 (Y1 (Y1 (Y1 (Y1 (Y1 (Y1 (Y1 (Y1 (Y1 (Y1 (Y1 (Y1 (Y1 (Y1 (Y1 (Y1 (Y1 (Y1 Xjm QC1) QCx) Xjk) Xjj) Xji) Xjh) Xjg) Xjf) Xje) Xjd) Xjc) Xj8) Xj7) Xj6) Xj5) Xj4) Xj3) Xj2) Xj1) Xj0) Xiz) QC2) Xiy) cG) cH) QC0) QCy) (by kernel_rfl)) Xix) Xiw) Xiv
theorem Xir{H:Type}(enc:TypeId×Value→H)(os:Os):Rows.encloseMeetsSpec.preB enc Tryz.checked.prog Tryz.f10 [] false ((World.doorLaid Tryz.prog 4000 os).forCall (fun _ _=>0) ⟨#[],#[.agg #[.slice none 0 0,.slice none 0 0,.slice none 0 0],.slice none 0 0,.slice none 0 0],[]⟩).memory #[.agg #[.slice none 0 0,.slice none 0 0,.slice none 0 0],.slice none 0 0,.slice none 0 0] 8=true:=by kernel_rfl
theorem Xi9{H:Type}(enc:TypeId×Value→H)(os:Os):Rows.encloseMeetsSpec.sizedB enc Tryz.checked.prog Tryz.f10 false ((World.doorLaid Tryz.prog 4000 os).forCall (fun _ _=>0) ⟨#[],#[.agg #[.slice none 0 0,.slice none 0 0,.slice none 0 0],.slice none 0 0,.slice none 0 0],[]⟩).memory #[.agg #[.slice none 0 0,.slice none 0 0,.slice none 0 0],.slice none 0 0,.slice none 0 0] 8=true:=by kernel_rfl
theorem Xis(os:Os):Input.okWideB Tryz.checked.prog ((World.doorLaid Tryz.prog 4000 os).forCall (fun _ _=>0) ⟨#[],#[.agg #[.slice none 0 0,.slice none 0 0,.slice none 0 0],.slice none 0 0,.slice none 0 0],[]⟩) 10 ⟨#[],#[.agg #[.slice none 0 0,.slice none 0 0,.slice none 0 0],.slice none 0 0,.slice none 0 0],[]⟩=true:=by kernel_rfl
theorem Xhy(os:Os):((World.doorLaid Tryz.prog 4000 os).forCall (fun _ _=>0) ⟨#[],#[.agg #[.slice none 0 0,.slice none 0 0,.slice none 0 0],.slice none 0 0,.slice none 0 0],[]⟩).Shaped Tryz.checked.prog:=World.shaped_of_RefB (by kernel_rfl) (by kernel_rfl)
theorem Xit:Tryz.prog.inits.idxOf? 10=none:=by kernel_rfl
theorem Xib:(Tryz.f10.params.toList.all fun t=>Tryz.prog.readableRec t&&decide (t<Tryz.prog.types.size))=true:=by kernel_rfl
set_option maxRecDepth 100000 in
theorem Xhz(os:Os)(started:os.Started)(H:Type)(enc:TypeId×Value→H):
  ReturnsInHanded {} Tryz.checked os 10 .any (fun w args=>(Rows.encloseMeetsSpec.pre enc Tryz.prog Tryz.f10 [] false w args∧laidMetH Tryz.prog TH w)∧sizedMet enc Tryz.prog Tryz.f10 (OpenSpec.ofChange Rows.encloseMeetsSpec) false w args)
   (Rows.encloseMeetsSpec.post enc Tryz.prog Tryz.f10 false true false false):=by
 refine z8 os started enc Tryz.func10 Xit rfl (fun ds h=>?_) rfl Xib
  (ChangeSpec.witness_shaped (enc:=enc) (C:=Tryz.checked) (os:=os) (X:=fun w _=>laidMetH Tryz.prog TH w) false (World.doorLaid Tryz.prog 4000 os) #[.agg #[.slice none 0 0,.slice none 0 0,.slice none 0 0],.slice none 0 0,.slice none 0 0] 8 rfl (Xhy os) (Xis os) (Xir enc os) (Xi9 enc os) (QAB os _)) ?_
 ·match ds,h with
  |[d1,d2,d3],_=>rfl
 ·intro W base args ds ps hval hA hF hG
  have hval:∀(j:Nat) t v,(#[38,77,77]:Array TypeId)[j]?=some t→args[j]?=some v→Value.okWide Tryz.prog W .any base t v:=hval
  have hA:DataW.TrodAll enc Tryz.prog W 0 (fun _=>true) true [38,77,77] args.toList ds ps:=hA
  obtain⟨v0,v1,v2,d0,d1,d2,p0,p1,p2,rfl,rfl,rfl,h0,h1,h2⟩:=trodAll_three hA
  obtain⟨y,rfl,hy,hl⟩:=QEz (hval 0 _ _ rfl rfl) h0
  obtain⟨r,ta,rfl,ha,hna,hza⟩:=Xgk (hval 1 _ _ rfl rfl) h1
  obtain⟨r2,tb,rfl,hb,hnb,hzb⟩:=Xgk (hval 2 _ _ rfl rfl) h2
  exact Xjq hF hG hy hl ha hb ⟨hna,hnb⟩ hza hzb
theorem Xht:Tryz.prog.funcNamed "integraph/integraphlaw08.EncloseMeets" = some 10:=by kernel_rfl
theorem Xic:Tryz.f10.isInstance Tryz.checked.prog Rows.encloseMeetsRow.origin Rows.encloseMeetsRow.targs:=wi (by kernel_rfl)
theorem Xia:Tryz.f10.isWrapper Tryz.checked.prog Rows.encloseMeetsRow.wrapper Rows.encloseMeetsRow.mainSum:=by unfold Func.isWrapper;first | (rw[if_pos (by decide +kernel)];kernel_rfl) | (rw[if_neg (by decide +kernel)];exact⟨rfl,rfl⟩)
theorem encloseMeets_holds:Rows.EncloseMeetsSaid :=
 OpenClaim.holds_of_wide 10 Tryz.f10 rfl rfl rfl rfl rfl rfl rfl ⟨rfl,rfl,rfl,rfl,rfl⟩ rfl rfl rfl rfl rfl Xht Tryz.func10 Xi0 Xic Xia
  (fun os started H enc _=>Xhz os started H enc)
theorem Xi1:Rows.encloseMeetsRow.wfByText (OpenSpec.ofChange Rows.encloseMeetsSpec)=true:=by kernel_rfl
theorem Xi8:(Tryz.f10.params.toList.all fun u=>!Tryz.prog.wantsStandIn u)=true:=by kernel_rfl
theorem Xid:false=Rows.encloseMeetsRow.goesBy Tryz.checked.prog:=by kernel_rfl
theorem encloseMeets_card_holds:Rows.EncloseMeetsCardSaid :=
 Claim7.holds_tied_plain_at .later [] [.data,.data,.data,.sentinel,.sentinel] true (true, "cf78c4e6c1ac7b9d94aed50302f1e7380b4c017140f2ae4993d9de171b50ee1d") true
  encloseMeets_holds (fun _ h=>by cases h) Xi1 (fun _ h=>by cases h) encloseMeets_row_tie rfl ⟨rfl,rfl⟩ QCz rfl
  (fun f fn hf hfn=>by
   obtain rfl:f=10:=Option.some.inj (Xht.symm.trans hf) |>.symm
   obtain rfl:fn=Tryz.f10:=(Option.some.inj (Tryz.func10.symm.trans hfn)).symm
   exact⟨cF,fun j t ht=>by
    have hm:t∈Tryz.f10.params.toList:=by simpa using Array.mem_of_getElem? ht
    exact(show Tryz.prog.wantsStandIn t=false by simpa using List.all_eq_true.1 Xi8 t hm)⟩)
  Xid
#print axioms encloseMeets_card_holds
end
end Go.Proofs.YtjcphjpkimmmjaaGreatDoor
