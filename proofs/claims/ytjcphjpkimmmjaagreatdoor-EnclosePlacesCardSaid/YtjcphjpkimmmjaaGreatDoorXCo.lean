/- Whatever the input, the law answers true and leaves its input as it was. -/
import Derived.Test.YtjcphjpkimmmjaaGreatDoorE1XCo
import Derived.Test.YtjcphjpkimmmjaaGreatDoorTie
set_option linter.all false
set_option maxHeartbeats 4000000
namespace Go.Proofs.YtjcphjpkimmmjaaGreatDoor
section
open Go.RowKit Go.ChangeShapes Go.WideShapes Ig
theorem Xlj:Rows.enclosePlacesRow.wf (OpenSpec.ofChange Rows.enclosePlacesSpec)=true:=by kernel_rfl
theorem Xli:Tryz.f13.params.all (Tryz.checked.prog.readableRec ·)=true:=by kernel_rfl
theorem Xlh:namedTie Tryz.checked.prog Rows.enclosePlacesRow.named Rows.enclosePlacesSpec.vars=true:=by kernel_rfl
theorem Xlg:(Rows.enclosePlacesRow.stops==[])=true:=by kernel_rfl
theorem Xlf:(Tryz.checked.prog.stops==[])=true:=by kernel_rfl
theorem Xle:(Rows.enclosePlacesRow.knobs==[])=true:=by kernel_rfl
theorem Xld:(Tryz.checked.prog.stopKnobs==[])=true:=by kernel_rfl
theorem Xlc:(Rows.enclosePlacesRow.inPlace==Tryz.checked.prog.inPlace 13)=true:=by kernel_rfl
theorem Xlb:(Rows.enclosePlacesRow.unfollowed==Tryz.checked.prog.unfollowed 13)=true:=by kernel_rfl
theorem Xla:(Rows.enclosePlacesRow.recurses==Tryz.checked.prog.recurses 13)=true:=by kernel_rfl
theorem Xl5:(Rows.enclosePlacesRow.named==Tryz.checked.prog.varsNamed 13)=true:=by kernel_rfl
theorem Xl4:(Rows.enclosePlacesRow.maps==(Tryz.f13.params.toList++Rows.enclosePlacesSpec.plain.varTypes Tryz.checked.prog).any (Tryz.checked.prog.mapsRec ·))=true:=by kernel_rfl
theorem Xl3:(Rows.enclosePlacesRow.ifaces==(Tryz.f13.params.toList++Rows.enclosePlacesSpec.plain.varTypes Tryz.checked.prog).any (Tryz.checked.prog.ifacesRec ·))=true:=by kernel_rfl
theorem Xl2:(Rows.enclosePlacesRow.mapsOut==Tryz.checked.prog.mapsAmong Tryz.f13.resultTypes.toList)=true:=by kernel_rfl
theorem Xl1:(Rows.enclosePlacesRow.loops==(Tryz.f13.params.toList++Rows.enclosePlacesSpec.plain.varTypes Tryz.checked.prog).any (Tryz.checked.prog.loopsFrom ·))=true:=by kernel_rfl
theorem Xl0:(Rows.enclosePlacesRow.wideKeys==(Tryz.f13.params.toList++Rows.enclosePlacesSpec.plain.varTypes Tryz.checked.prog++Tryz.f13.resultTypes.toList).any (Tryz.checked.prog.wideKeysFrom ·))=true:=by kernel_rfl
theorem Xkz:Rows.enclosePlacesSpec.vars.all (Tryz.checked.prog.varReadable ·)=true:=by kernel_rfl
theorem Xky:(Tryz.f13.resultTypes.all (fun t=>Tryz.checked.prog.readableRec t&&decide (t<Tryz.checked.prog.types.size)))=true:=by kernel_rfl
theorem Xkx:(Rows.enclosePlacesRow.ifacesOut==Tryz.f13.resultTypes.toList.any (Tryz.checked.prog.ifacesRec ·))=true:=by kernel_rfl
theorem Xkw:(Rows.enclosePlacesRow.loopsOut==Tryz.f13.resultTypes.toList.any (Tryz.checked.prog.loopsFrom ·))=true:=by kernel_rfl
theorem Xkv:Rows.enclosePlacesRow.shortTexts.isNone=true:=by kernel_rfl
theorem Xku:(Rows.enclosePlacesRow.pinned==Rows.enclosePlacesRow.pinnedBy)=true:=by kernel_rfl
theorem Xkt:(Rows.enclosePlacesRow.veiled==(Tryz.f13.params.toList++Rows.enclosePlacesSpec.plain.varTypes Tryz.checked.prog++Tryz.f13.resultTypes.toList).any (Tryz.checked.prog.veiledRec ·))=true:=by kernel_rfl
theorem Xks:Rows.enclosePlacesRow.veiledFits Tryz.checked.prog Tryz.f13.params.toList (Tryz.f13.params.toList++Rows.enclosePlacesSpec.plain.varTypes Tryz.checked.prog++Tryz.f13.resultTypes.toList)=true:=by kernel_rfl
theorem Xk3:joinedFacts Tryz.checked.prog 13 Tryz.f13 Rows.enclosePlacesSpec Rows.enclosePlacesRow=true:=by
 unfold joinedFacts
 exact Y1 (Y1 (Y1 (Y1 (Y1 (Y1 (Y1 (Y1 (Y1 (Y1 (Y1 (Y1 (Y1 (Y1 (Y1 (Y1 (Y1 (Y1 (Y1 (Y1 (Y1 (Y1 (Y1 (Y1 (Y1 (Y1 (Y1 (Y1 (Y1 (Y1 (Y1 Xlj QC1) QCx) Xli) Xlh) Xlg) Xlf) Xle) Xld) Xlc) Xlb) Xla) Xl5) Xl4) Xl3) Xl2) Xl1) Xl0) Xkz) Xky) Xkx) Xkw) QC2) Xkv) cG) cH) QC0) QCy) (by kernel_rfl)) Xku) Xkt) Xks
theorem Xkh{H:Type}(enc:TypeId×Value→H)(os:Os):Rows.enclosePlacesSpec.preB enc Tryz.checked.prog Tryz.f13 [] false ((World.doorLaid Tryz.prog 4000 os).forCall (fun _ _=>0) ⟨#[],#[.agg #[.slice none 0 0,.slice none 0 0,.slice none 0 0],.slice none 0 0,.string ⟨#[]⟩],[]⟩).memory #[.agg #[.slice none 0 0,.slice none 0 0,.slice none 0 0],.slice none 0 0,.string ⟨#[]⟩] 8=true:=by kernel_rfl
theorem Xk8{H:Type}(enc:TypeId×Value→H)(os:Os):Rows.enclosePlacesSpec.sizedB enc Tryz.checked.prog Tryz.f13 false ((World.doorLaid Tryz.prog 4000 os).forCall (fun _ _=>0) ⟨#[],#[.agg #[.slice none 0 0,.slice none 0 0,.slice none 0 0],.slice none 0 0,.string ⟨#[]⟩],[]⟩).memory #[.agg #[.slice none 0 0,.slice none 0 0,.slice none 0 0],.slice none 0 0,.string ⟨#[]⟩] 8=true:=by kernel_rfl
theorem Xki(os:Os):Input.okWideB Tryz.checked.prog ((World.doorLaid Tryz.prog 4000 os).forCall (fun _ _=>0) ⟨#[],#[.agg #[.slice none 0 0,.slice none 0 0,.slice none 0 0],.slice none 0 0,.string ⟨#[]⟩],[]⟩) 13 ⟨#[],#[.agg #[.slice none 0 0,.slice none 0 0,.slice none 0 0],.slice none 0 0,.string ⟨#[]⟩],[]⟩=true:=by kernel_rfl
theorem Xk1(os:Os):((World.doorLaid Tryz.prog 4000 os).forCall (fun _ _=>0) ⟨#[],#[.agg #[.slice none 0 0,.slice none 0 0,.slice none 0 0],.slice none 0 0,.string ⟨#[]⟩],[]⟩).Shaped Tryz.checked.prog:=World.shaped_of_RefB (by kernel_rfl) (by kernel_rfl)
theorem Xkj:Tryz.prog.inits.idxOf? 13=none:=by kernel_rfl
theorem Xkd:(Tryz.f13.params.toList.all fun t=>Tryz.prog.readableRec t&&decide (t<Tryz.prog.types.size))=true:=by kernel_rfl
set_option maxRecDepth 100000 in
theorem Xk2(os:Os)(started:os.Started)(H:Type)(enc:TypeId×Value→H):
  ReturnsInHanded {} Tryz.checked os 13 .any (fun w args=>(Rows.enclosePlacesSpec.pre enc Tryz.prog Tryz.f13 [] false w args∧laidMetH Tryz.prog TH w)∧sizedMet enc Tryz.prog Tryz.f13 (OpenSpec.ofChange Rows.enclosePlacesSpec) false w args)
   (Rows.enclosePlacesSpec.post enc Tryz.prog Tryz.f13 false true false false):=by
 refine z8 os started enc Tryz.func13 Xkj rfl (fun ds h=>?_) rfl Xkd
  (ChangeSpec.witness_shaped (enc:=enc) (C:=Tryz.checked) (os:=os) (X:=fun w _=>laidMetH Tryz.prog TH w) false (World.doorLaid Tryz.prog 4000 os) #[.agg #[.slice none 0 0,.slice none 0 0,.slice none 0 0],.slice none 0 0,.string ⟨#[]⟩] 8 rfl (Xk1 os) (Xki os) (Xkh enc os) (Xk8 enc os) (QAB os _)) ?_
 ·match ds,h with
  |[d1,d2,d3],_=>rfl
 ·intro W base args ds ps hval hA hF hG
  have hval:∀(j:Nat) t v,(#[38,77,22]:Array TypeId)[j]?=some t→args[j]?=some v→Value.okWide Tryz.prog W .any base t v:=hval
  have hA:DataW.TrodAll enc Tryz.prog W 0 (fun _=>true) true [38,77,22] args.toList ds ps:=hA
  obtain⟨v0,v1,v2,d0,d1,d2,p0,p1,p2,rfl,rfl,rfl,h0,h1,h2⟩:=trodAll_three hA
  obtain⟨y,rfl,hy,hl⟩:=QEz (hval 0 _ _ rfl rfl) h0
  obtain⟨r,tb,rfl,hx,hn,hz⟩:=Xgk (hval 1 _ _ rfl rfl) h1
  obtain⟨s,rfl⟩:=Xlv jD (hval 2 _ _ rfl rfl) h2
  exact Xlu hF hG hy hl hx hn hz
theorem Xik:Tryz.prog.funcNamed "integraph/integraphlaw08.EnclosePlaces" = some 13:=by kernel_rfl
theorem Xke:Tryz.f13.isInstance Tryz.checked.prog Rows.enclosePlacesRow.origin Rows.enclosePlacesRow.targs:=wi (by kernel_rfl)
theorem Xkc:Tryz.f13.isWrapper Tryz.checked.prog Rows.enclosePlacesRow.wrapper Rows.enclosePlacesRow.mainSum:=by unfold Func.isWrapper;first | (rw[if_pos (by decide +kernel)];kernel_rfl) | (rw[if_neg (by decide +kernel)];exact⟨rfl,rfl⟩)
theorem enclosePlaces_holds:Rows.EnclosePlacesSaid :=
 OpenClaim.holds_of_wide 13 Tryz.f13 rfl rfl rfl rfl rfl rfl rfl ⟨rfl,rfl,rfl,rfl,rfl⟩ rfl rfl rfl rfl rfl Xik Tryz.func13 Xk3 Xke Xkc
  (fun os started H enc _=>Xk2 os started H enc)
theorem Xk4:Rows.enclosePlacesRow.wfByText (OpenSpec.ofChange Rows.enclosePlacesSpec)=true:=by kernel_rfl
theorem Xk7:(Tryz.f13.params.toList.all fun u=>!Tryz.prog.wantsStandIn u)=true:=by kernel_rfl
theorem Xkf:false=Rows.enclosePlacesRow.goesBy Tryz.checked.prog:=by kernel_rfl
theorem enclosePlaces_card_holds:Rows.EnclosePlacesCardSaid :=
 Claim7.holds_tied_plain_at .later [] [.data,.data,.data,.sentinel,.sentinel] true (true, "cf78c4e6c1ac7b9d94aed50302f1e7380b4c017140f2ae4993d9de171b50ee1d") true
  enclosePlaces_holds (fun _ h=>by cases h) Xk4 (fun _ h=>by cases h) enclosePlaces_row_tie rfl ⟨rfl,rfl⟩ QCz rfl
  (fun f fn hf hfn=>by
   obtain rfl:f=13:=Option.some.inj (Xik.symm.trans hf) |>.symm
   obtain rfl:fn=Tryz.f13:=(Option.some.inj (Tryz.func13.symm.trans hfn)).symm
   exact⟨cF,fun j t ht=>by
    have hm:t∈Tryz.f13.params.toList:=by simpa using Array.mem_of_getElem? ht
    exact(show Tryz.prog.wantsStandIn t=false by simpa using List.all_eq_true.1 Xk7 t hm)⟩)
  Xkf
#print axioms enclosePlaces_card_holds
end
end Go.Proofs.YtjcphjpkimmmjaaGreatDoor
