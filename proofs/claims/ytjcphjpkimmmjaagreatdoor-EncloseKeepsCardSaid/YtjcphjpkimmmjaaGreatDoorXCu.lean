/- Whatever the input, the law answers true and leaves its input as it was. -/
import Derived.Test.YtjcphjpkimmmjaaGreatDoorE1XCu
import Derived.Test.YtjcphjpkimmmjaaGreatDoorTie
set_option linter.all false
set_option maxHeartbeats 4000000
namespace Go.Proofs.YtjcphjpkimmmjaaGreatDoor
section
open Go.RowKit Go.ChangeShapes Go.WideShapes Ig
theorem Xpk:Rows.encloseKeepsRow.wf (OpenSpec.ofChange Rows.encloseKeepsSpec)=true:=by kernel_rfl
theorem Xpj:Tryz.f7.params.all (Tryz.checked.prog.readableRec ·)=true:=by kernel_rfl
theorem Xpi:namedTie Tryz.checked.prog Rows.encloseKeepsRow.named Rows.encloseKeepsSpec.vars=true:=by kernel_rfl
theorem Xph:(Rows.encloseKeepsRow.stops==[])=true:=by kernel_rfl
theorem Xpg:(Tryz.checked.prog.stops==[])=true:=by kernel_rfl
theorem Xpf:(Rows.encloseKeepsRow.knobs==[])=true:=by kernel_rfl
theorem Xpe:(Tryz.checked.prog.stopKnobs==[])=true:=by kernel_rfl
theorem Xpd:(Rows.encloseKeepsRow.inPlace==Tryz.checked.prog.inPlace 7)=true:=by kernel_rfl
theorem Xpc:(Rows.encloseKeepsRow.unfollowed==Tryz.checked.prog.unfollowed 7)=true:=by kernel_rfl
theorem Xpb:(Rows.encloseKeepsRow.recurses==Tryz.checked.prog.recurses 7)=true:=by kernel_rfl
theorem Xp2:(Rows.encloseKeepsRow.named==Tryz.checked.prog.varsNamed 7)=true:=by kernel_rfl
theorem Xp1:(Rows.encloseKeepsRow.maps==(Tryz.f7.params.toList++Rows.encloseKeepsSpec.plain.varTypes Tryz.checked.prog).any (Tryz.checked.prog.mapsRec ·))=true:=by kernel_rfl
theorem Xp0:(Rows.encloseKeepsRow.ifaces==(Tryz.f7.params.toList++Rows.encloseKeepsSpec.plain.varTypes Tryz.checked.prog).any (Tryz.checked.prog.ifacesRec ·))=true:=by kernel_rfl
theorem Xoz:(Rows.encloseKeepsRow.mapsOut==Tryz.checked.prog.mapsAmong Tryz.f7.resultTypes.toList)=true:=by kernel_rfl
theorem Xoy:(Rows.encloseKeepsRow.loops==(Tryz.f7.params.toList++Rows.encloseKeepsSpec.plain.varTypes Tryz.checked.prog).any (Tryz.checked.prog.loopsFrom ·))=true:=by kernel_rfl
theorem Xox:(Rows.encloseKeepsRow.wideKeys==(Tryz.f7.params.toList++Rows.encloseKeepsSpec.plain.varTypes Tryz.checked.prog++Tryz.f7.resultTypes.toList).any (Tryz.checked.prog.wideKeysFrom ·))=true:=by kernel_rfl
theorem Xow:Rows.encloseKeepsSpec.vars.all (Tryz.checked.prog.varReadable ·)=true:=by kernel_rfl
theorem Xov:(Tryz.f7.resultTypes.all (fun t=>Tryz.checked.prog.readableRec t&&decide (t<Tryz.checked.prog.types.size)))=true:=by kernel_rfl
theorem Xou:(Rows.encloseKeepsRow.ifacesOut==Tryz.f7.resultTypes.toList.any (Tryz.checked.prog.ifacesRec ·))=true:=by kernel_rfl
theorem Xot:(Rows.encloseKeepsRow.loopsOut==Tryz.f7.resultTypes.toList.any (Tryz.checked.prog.loopsFrom ·))=true:=by kernel_rfl
theorem Xos:Rows.encloseKeepsRow.shortTexts.isNone=true:=by kernel_rfl
theorem Xor:(Rows.encloseKeepsRow.pinned==Rows.encloseKeepsRow.pinnedBy)=true:=by kernel_rfl
theorem Xoq:(Rows.encloseKeepsRow.veiled==(Tryz.f7.params.toList++Rows.encloseKeepsSpec.plain.varTypes Tryz.checked.prog++Tryz.f7.resultTypes.toList).any (Tryz.checked.prog.veiledRec ·))=true:=by kernel_rfl
theorem Xop:Rows.encloseKeepsRow.veiledFits Tryz.checked.prog Tryz.f7.params.toList (Tryz.f7.params.toList++Rows.encloseKeepsSpec.plain.varTypes Tryz.checked.prog++Tryz.f7.resultTypes.toList)=true:=by kernel_rfl
theorem Xnu:joinedFacts Tryz.checked.prog 7 Tryz.f7 Rows.encloseKeepsSpec Rows.encloseKeepsRow=true:=by
 unfold joinedFacts
 exact Y1 (Y1 (Y1 (Y1 (Y1 (Y1 (Y1 (Y1 (Y1 (Y1 (Y1 (Y1 (Y1 (Y1 (Y1 (Y1 (Y1 (Y1 (Y1 (Y1 (Y1 (Y1 (Y1 (Y1 (Y1 (Y1 (Y1 (Y1 (Y1 (Y1 (Y1 Xpk QC1) QCx) Xpj) Xpi) Xph) Xpg) Xpf) Xpe) Xpd) Xpc) Xpb) Xp2) Xp1) Xp0) Xoz) Xoy) Xox) Xow) Xov) Xou) Xot) QC2) Xos) cG) cH) QC0) QCy) (by kernel_rfl)) Xor) Xoq) Xop
theorem Xoh{H:Type}(enc:TypeId×Value→H)(os:Os):Rows.encloseKeepsSpec.preB enc Tryz.checked.prog Tryz.f7 [] false ((World.doorLaid Tryz.prog 4000 os).forCall (fun _ _=>0) ⟨#[],#[.agg #[.slice none 0 0,.slice none 0 0,.slice none 0 0],.slice none 0 0,.slice none 0 0],[]⟩).memory #[.agg #[.slice none 0 0,.slice none 0 0,.slice none 0 0],.slice none 0 0,.slice none 0 0] 8=true:=by kernel_rfl
theorem Xo4{H:Type}(enc:TypeId×Value→H)(os:Os):Rows.encloseKeepsSpec.sizedB enc Tryz.checked.prog Tryz.f7 false ((World.doorLaid Tryz.prog 4000 os).forCall (fun _ _=>0) ⟨#[],#[.agg #[.slice none 0 0,.slice none 0 0,.slice none 0 0],.slice none 0 0,.slice none 0 0],[]⟩).memory #[.agg #[.slice none 0 0,.slice none 0 0,.slice none 0 0],.slice none 0 0,.slice none 0 0] 8=true:=by kernel_rfl
theorem Xoi(os:Os):Input.okWideB Tryz.checked.prog ((World.doorLaid Tryz.prog 4000 os).forCall (fun _ _=>0) ⟨#[],#[.agg #[.slice none 0 0,.slice none 0 0,.slice none 0 0],.slice none 0 0,.slice none 0 0],[]⟩) 7 ⟨#[],#[.agg #[.slice none 0 0,.slice none 0 0,.slice none 0 0],.slice none 0 0,.slice none 0 0],[]⟩=true:=by kernel_rfl
theorem Xns(os:Os):((World.doorLaid Tryz.prog 4000 os).forCall (fun _ _=>0) ⟨#[],#[.agg #[.slice none 0 0,.slice none 0 0,.slice none 0 0],.slice none 0 0,.slice none 0 0],[]⟩).Shaped Tryz.checked.prog:=World.shaped_of_RefB (by kernel_rfl) (by kernel_rfl)
theorem Xoj:Tryz.prog.inits.idxOf? 7=none:=by kernel_rfl
theorem Xo8:(Tryz.f7.params.toList.all fun t=>Tryz.prog.readableRec t&&decide (t<Tryz.prog.types.size))=true:=by kernel_rfl
set_option maxRecDepth 100000 in
theorem Xnt(os:Os)(started:os.Started)(H:Type)(enc:TypeId×Value→H):
  ReturnsInHanded {} Tryz.checked os 7 .any (fun w args=>(Rows.encloseKeepsSpec.pre enc Tryz.prog Tryz.f7 [] false w args∧laidMetH Tryz.prog TH w)∧sizedMet enc Tryz.prog Tryz.f7 (OpenSpec.ofChange Rows.encloseKeepsSpec) false w args)
   (Rows.encloseKeepsSpec.post enc Tryz.prog Tryz.f7 false true false false):=by
 refine z8 os started enc Tryz.func7 Xoj rfl (fun ds h=>?_) rfl Xo8
  (ChangeSpec.witness_shaped (enc:=enc) (C:=Tryz.checked) (os:=os) (X:=fun w _=>laidMetH Tryz.prog TH w) false (World.doorLaid Tryz.prog 4000 os) #[.agg #[.slice none 0 0,.slice none 0 0,.slice none 0 0],.slice none 0 0,.slice none 0 0] 8 rfl (Xns os) (Xoi os) (Xoh enc os) (Xo4 enc os) (QAB os _)) ?_
 ·match ds,h with
  |[d1,d2,d3],_=>rfl
 ·intro W base args ds ps hval hA hF hG
  have hval:∀(j:Nat) t v,(#[38,76,77]:Array TypeId)[j]?=some t→args[j]?=some v→Value.okWide Tryz.prog W .any base t v:=hval
  have hA:DataW.TrodAll enc Tryz.prog W 0 (fun _=>true) true [38,76,77] args.toList ds ps:=hA
  obtain⟨v0,v1,v2,d0,d1,d2,p0,p1,p2,rfl,rfl,rfl,h0,h1,h2⟩:=trodAll_three hA
  obtain⟨y,rfl,hy,hl⟩:=QEz (hval 0 _ _ rfl rfl) h0
  obtain⟨a,rfl,hP,hLe,hb⟩:=Xon (hval 1 _ _ rfl rfl) h1
  obtain⟨r,tb,rfl,hx,hn,hz⟩:=Xgk (hval 2 _ _ rfl rfl) h2
  exact Xpa hF hG hy hl hP.1 hP.2.1 hP.2.2.2.2 hb (fun t ht=>(hP.2.1 t ht).2.1) hx hn fun b hb=>⟨hz b hb,(hx.bx b hb).1.len,(hx.bx b hb).2.len⟩
theorem Xno:Tryz.prog.funcNamed "integraph/integraphlaw08.EncloseKeeps" = some 7:=by kernel_rfl
theorem Xo9:Tryz.f7.isInstance Tryz.checked.prog Rows.encloseKeepsRow.origin Rows.encloseKeepsRow.targs:=wi (by kernel_rfl)
theorem Xo7:Tryz.f7.isWrapper Tryz.checked.prog Rows.encloseKeepsRow.wrapper Rows.encloseKeepsRow.mainSum:=by unfold Func.isWrapper;first | (rw[if_pos (by decide +kernel)];kernel_rfl) | (rw[if_neg (by decide +kernel)];exact⟨rfl,rfl⟩)
theorem encloseKeeps_holds:Rows.EncloseKeepsSaid :=
 OpenClaim.holds_of_wide 7 Tryz.f7 rfl rfl rfl rfl rfl rfl rfl ⟨rfl,rfl,rfl,rfl,rfl⟩ rfl rfl rfl rfl rfl Xno Tryz.func7 Xnu Xo9 Xo7
  (fun os started H enc _=>Xnt os started H enc)
theorem Xnv:Rows.encloseKeepsRow.wfByText (OpenSpec.ofChange Rows.encloseKeepsSpec)=true:=by kernel_rfl
theorem Xo3:(Tryz.f7.params.toList.all fun u=>!Tryz.prog.wantsStandIn u)=true:=by kernel_rfl
theorem Xoa:false=Rows.encloseKeepsRow.goesBy Tryz.checked.prog:=by kernel_rfl
theorem encloseKeeps_card_holds:Rows.EncloseKeepsCardSaid :=
 Claim7.holds_tied_plain_at .later [] [.data,.data,.data,.sentinel,.sentinel] true (true, "cf78c4e6c1ac7b9d94aed50302f1e7380b4c017140f2ae4993d9de171b50ee1d") true
  encloseKeeps_holds (fun _ h=>by cases h) Xnv (fun _ h=>by cases h) encloseKeeps_row_tie rfl ⟨rfl,rfl⟩ QCz rfl
  (fun f fn hf hfn=>by
   obtain rfl:f=7:=Option.some.inj (Xno.symm.trans hf) |>.symm
   obtain rfl:fn=Tryz.f7:=(Option.some.inj (Tryz.func7.symm.trans hfn)).symm
   exact⟨cF,fun j t ht=>by
    have hm:t∈Tryz.f7.params.toList:=by simpa using Array.mem_of_getElem? ht
    exact(show Tryz.prog.wantsStandIn t=false by simpa using List.all_eq_true.1 Xo3 t hm)⟩)
  Xoa
#print axioms encloseKeeps_card_holds
end
end Go.Proofs.YtjcphjpkimmmjaaGreatDoor
