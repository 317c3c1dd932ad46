/- Whatever the input, the law answers true and leaves its input as it was. -/
import Derived.Test.YtjcphjpkimmmjaaGreatDoorE1XCr
import Derived.Test.YtjcphjpkimmmjaaGreatDoorTie
set_option linter.all false
set_option maxHeartbeats 4000000
namespace Go.Proofs.YtjcphjpkimmmjaaGreatDoor
section
open Go.RowKit Go.ChangeShapes Go.WideShapes Ig
theorem Xeh:Rows.encloseTaylorsRow.wf (OpenSpec.ofChange Rows.encloseTaylorsSpec)=true:=by kernel_rfl
theorem Xeg:Tryz.f5.params.all (Tryz.checked.prog.readableRec ·)=true:=by kernel_rfl
theorem Xef:namedTie Tryz.checked.prog Rows.encloseTaylorsRow.named Rows.encloseTaylorsSpec.vars=true:=by kernel_rfl
theorem Xee:(Rows.encloseTaylorsRow.stops==[])=true:=by kernel_rfl
theorem Xed:(Tryz.checked.prog.stops==[])=true:=by kernel_rfl
theorem Xec:(Rows.encloseTaylorsRow.knobs==[])=true:=by kernel_rfl
theorem Xeb:(Tryz.checked.prog.stopKnobs==[])=true:=by kernel_rfl
theorem Xea:(Rows.encloseTaylorsRow.inPlace==Tryz.checked.prog.inPlace 5)=true:=by kernel_rfl
theorem Xe9:(Rows.encloseTaylorsRow.unfollowed==Tryz.checked.prog.unfollowed 5)=true:=by kernel_rfl
theorem Xe8:(Rows.encloseTaylorsRow.recurses==Tryz.checked.prog.recurses 5)=true:=by kernel_rfl
theorem Xe2:(Rows.encloseTaylorsRow.named==Tryz.checked.prog.varsNamed 5)=true:=by kernel_rfl
theorem Xe1:(Rows.encloseTaylorsRow.maps==(Tryz.f5.params.toList++Rows.encloseTaylorsSpec.plain.varTypes Tryz.checked.prog).any (Tryz.checked.prog.mapsRec ·))=true:=by kernel_rfl
theorem Xe0:(Rows.encloseTaylorsRow.ifaces==(Tryz.f5.params.toList++Rows.encloseTaylorsSpec.plain.varTypes Tryz.checked.prog).any (Tryz.checked.prog.ifacesRec ·))=true:=by kernel_rfl
theorem Xdz:(Rows.encloseTaylorsRow.mapsOut==Tryz.checked.prog.mapsAmong Tryz.f5.resultTypes.toList)=true:=by kernel_rfl
theorem Xdy:(Rows.encloseTaylorsRow.loops==(Tryz.f5.params.toList++Rows.encloseTaylorsSpec.plain.varTypes Tryz.checked.prog).any (Tryz.checked.prog.loopsFrom ·))=true:=by kernel_rfl
theorem Xdx:(Rows.encloseTaylorsRow.wideKeys==(Tryz.f5.params.toList++Rows.encloseTaylorsSpec.plain.varTypes Tryz.checked.prog++Tryz.f5.resultTypes.toList).any (Tryz.checked.prog.wideKeysFrom ·))=true:=by kernel_rfl
theorem Xdw:Rows.encloseTaylorsSpec.vars.all (Tryz.checked.prog.varReadable ·)=true:=by kernel_rfl
theorem Xdv:(Tryz.f5.resultTypes.all (fun t=>Tryz.checked.prog.readableRec t&&decide (t<Tryz.checked.prog.types.size)))=true:=by kernel_rfl
theorem Xdu:(Rows.encloseTaylorsRow.ifacesOut==Tryz.f5.resultTypes.toList.any (Tryz.checked.prog.ifacesRec ·))=true:=by kernel_rfl
theorem Xdt:(Rows.encloseTaylorsRow.loopsOut==Tryz.f5.resultTypes.toList.any (Tryz.checked.prog.loopsFrom ·))=true:=by kernel_rfl
theorem Xds:Rows.encloseTaylorsRow.shortTexts.isNone=true:=by kernel_rfl
theorem Xdr:(Rows.encloseTaylorsRow.pinned==Rows.encloseTaylorsRow.pinnedBy)=true:=by kernel_rfl
theorem Xdq:(Rows.encloseTaylorsRow.veiled==(Tryz.f5.params.toList++Rows.encloseTaylorsSpec.plain.varTypes Tryz.checked.prog++Tryz.f5.resultTypes.toList).any (Tryz.checked.prog.veiledRec ·))=true:=by kernel_rfl
theorem Xdp:Rows.encloseTaylorsRow.veiledFits Tryz.checked.prog Tryz.f5.params.toList (Tryz.f5.params.toList++Rows.encloseTaylorsSpec.plain.varTypes Tryz.checked.prog++Tryz.f5.resultTypes.toList)=true:=by kernel_rfl
theorem Xb5:joinedFacts Tryz.checked.prog 5 Tryz.f5 Rows.encloseTaylorsSpec Rows.encloseTaylorsRow=true:=by
 unfold joinedFacts
 exact Y1 (Y1 (Y1 (Y1 (Y1 (Y1 (Y1 (Y1 (Y1 (Y1 (Y1 (Y1 (Y1 (Y1 (Y1 (Y1 (Y1 (Y1 (Y1 (Y1 (Y1 (Y1 (Y1 (Y1 (Y1 (Y1 (Y1 (Y1 (Y1 (Y1 (Y1 Xeh QC1) QCx) Xeg) Xef) Xee) Xed) Xec) Xeb) Xea) Xe9) Xe8) Xe2) Xe1) Xe0) Xdz) Xdy) Xdx) Xdw) Xdv) Xdu) Xdt) QC2) Xds) cG) cH) QC0) QCy) (by kernel_rfl)) Xdr) Xdq) Xdp
theorem Xdi{H:Type}(enc:TypeId×Value→H)(os:Os):Rows.encloseTaylorsSpec.preB enc Tryz.checked.prog Tryz.f5 [] false ((World.doorLaid Tryz.prog 4000 os).forCall (fun _ _=>0) ⟨#[],#[.agg #[.slice none 0 0,.slice none 0 0,.slice none 0 0],.agg #[.string ⟨#[]⟩,.string ⟨#[]⟩,.slice none 0 0,.slice none 0 0,.int .i64 0,.int .i64 0]],[]⟩).memory #[.agg #[.slice none 0 0,.slice none 0 0,.slice none 0 0],.agg #[.string ⟨#[]⟩,.string ⟨#[]⟩,.slice none 0 0,.slice none 0 0,.int .i64 0,.int .i64 0]] 8=true:=by kernel_rfl
theorem Xd8{H:Type}(enc:TypeId×Value→H)(os:Os):Rows.encloseTaylorsSpec.sizedB enc Tryz.checked.prog Tryz.f5 false ((World.doorLaid Tryz.prog 4000 os).forCall (fun _ _=>0) ⟨#[],#[.agg #[.slice none 0 0,.slice none 0 0,.slice none 0 0],.agg #[.string ⟨#[]⟩,.string ⟨#[]⟩,.slice none 0 0,.slice none 0 0,.int .i64 0,.int .i64 0]],[]⟩).memory #[.agg #[.slice none 0 0,.slice none 0 0,.slice none 0 0],.agg #[.string ⟨#[]⟩,.string ⟨#[]⟩,.slice none 0 0,.slice none 0 0,.int .i64 0,.int .i64 0]] 8=true:=by kernel_rfl
theorem Xdj(os:Os):Input.okWideB Tryz.checked.prog ((World.doorLaid Tryz.prog 4000 os).forCall (fun _ _=>0) ⟨#[],#[.agg #[.slice none 0 0,.slice none 0 0,.slice none 0 0],.agg #[.string ⟨#[]⟩,.string ⟨#[]⟩,.slice none 0 0,.slice none 0 0,.int .i64 0,.int .i64 0]],[]⟩) 5 ⟨#[],#[.agg #[.slice none 0 0,.slice none 0 0,.slice none 0 0],.agg #[.string ⟨#[]⟩,.string ⟨#[]⟩,.slice none 0 0,.slice none 0 0,.int .i64 0,.int .i64 0]],[]⟩=true:=by kernel_rfl
theorem Xb2(os:Os):((World.doorLaid Tryz.prog 4000 os).forCall (fun _ _=>0) ⟨#[],#[.agg #[.slice none 0 0,.slice none 0 0,.slice none 0 0],.agg #[.string ⟨#[]⟩,.string ⟨#[]⟩,.slice none 0 0,.slice none 0 0,.int .i64 0,.int .i64 0]],[]⟩).Shaped Tryz.checked.prog:=World.shaped_of_RefB (by kernel_rfl) (by kernel_rfl)
theorem Xdk:Tryz.prog.inits.idxOf? 5=none:=by kernel_rfl
theorem Xdd:(Tryz.f5.params.toList.all fun t=>Tryz.prog.readableRec t&&decide (t<Tryz.prog.types.size))=true:=by kernel_rfl
set_option maxRecDepth 100000 in
theorem Xb4(os:Os)(started:os.Started)(H:Type)(enc:TypeId×Value→H):
  ReturnsInHanded {} Tryz.checked os 5 .any (fun w args=>(Rows.encloseTaylorsSpec.pre enc Tryz.prog Tryz.f5 [] false w args∧laidMetH Tryz.prog TH w)∧sizedMet enc Tryz.prog Tryz.f5 (OpenSpec.ofChange Rows.encloseTaylorsSpec) false w args)
   (Rows.encloseTaylorsSpec.post enc Tryz.prog Tryz.f5 false true false false):=by
 refine z8 os started enc Tryz.func5 Xdk rfl (fun ds h=>?_) rfl Xdd
  (ChangeSpec.witness_shaped (enc:=enc) (C:=Tryz.checked) (os:=os) (X:=fun w _=>laidMetH Tryz.prog TH w) false (World.doorLaid Tryz.prog 4000 os) #[.agg #[.slice none 0 0,.slice none 0 0,.slice none 0 0],.agg #[.string ⟨#[]⟩,.string ⟨#[]⟩,.slice none 0 0,.slice none 0 0,.int .i64 0,.int .i64 0]] 8 rfl (Xb2 os) (Xdj os) (Xdi enc os) (Xd8 enc os) (QAB os _)) ?_
 ·match ds,h with
  |[d1,d2],_=>rfl
 ·intro W base args ds ps hval hA hF hG
  have hval:∀(j:Nat) t v,(#[38,60]:Array TypeId)[j]?=some t→args[j]?=some v→Value.okWide Tryz.prog W .any base t v:=hval
  have hA:DataW.TrodAll enc Tryz.prog W 0 (fun _=>true) true [38,60] args.toList ds ps:=hA
  obtain⟨v0,v1,d0,d1,p0,p1,rfl,rfl,rfl,h0,h1⟩:=trodAll_two hA
  obtain⟨y,rfl,hy,hl⟩:=QEz (hval 0 _ _ rfl rfl) h0
  obtain⟨x,rfl,hx,hn⟩:=Xem (hval 1 _ _ rfl rfl) h1
  exact Xej hF hG hy hl hx hn
theorem Xau:Tryz.prog.funcNamed "integraph/integraphlaw08.EncloseTaylors" = some 5:=by kernel_rfl
theorem Xde:Tryz.f5.isInstance Tryz.checked.prog Rows.encloseTaylorsRow.origin Rows.encloseTaylorsRow.targs:=wi (by kernel_rfl)
theorem Xdc:Tryz.f5.isWrapper Tryz.checked.prog Rows.encloseTaylorsRow.wrapper Rows.encloseTaylorsRow.mainSum:=by unfold Func.isWrapper;first | (rw[if_pos (by decide +kernel)];kernel_rfl) | (rw[if_neg (by decide +kernel)];exact⟨rfl,rfl⟩)
theorem encloseTaylors_holds:Rows.EncloseTaylorsSaid :=
 OpenClaim.holds_of_wide 5 Tryz.f5 rfl rfl rfl rfl rfl rfl rfl ⟨rfl,rfl,rfl,rfl,rfl⟩ rfl rfl rfl rfl rfl Xau Tryz.func5 Xb5 Xde Xdc
  (fun os started H enc _=>Xb4 os started H enc)
theorem Xd5:Rows.encloseTaylorsRow.wfByText (OpenSpec.ofChange Rows.encloseTaylorsSpec)=true:=by kernel_rfl
theorem Xd7:(Tryz.f5.params.toList.all fun u=>!Tryz.prog.wantsStandIn u)=true:=by kernel_rfl
theorem Xdf:false=Rows.encloseTaylorsRow.goesBy Tryz.checked.prog:=by kernel_rfl
theorem encloseTaylors_card_holds:Rows.EncloseTaylorsCardSaid :=
 Claim7.holds_tied_plain_at .later [] [.data,.data,.data,.sentinel,.sentinel] true (true, "cf78c4e6c1ac7b9d94aed50302f1e7380b4c017140f2ae4993d9de171b50ee1d") true
  encloseTaylors_holds (fun _ h=>by cases h) Xd5 (fun _ h=>by cases h) encloseTaylors_row_tie rfl ⟨rfl,rfl⟩ QCz rfl
  (fun f fn hf hfn=>by
   obtain rfl:f=5:=Option.some.inj (Xau.symm.trans hf) |>.symm
   obtain rfl:fn=Tryz.f5:=(Option.some.inj (Tryz.func5.symm.trans hfn)).symm
   exact⟨cF,fun j t ht=>by
    have hm:t∈Tryz.f5.params.toList:=by simpa using Array.mem_of_getElem? ht
    exact(show Tryz.prog.wantsStandIn t=false by simpa using List.all_eq_true.1 Xd7 t hm)⟩)
  Xdf
#print axioms encloseTaylors_card_holds
end
end Go.Proofs.YtjcphjpkimmmjaaGreatDoor
