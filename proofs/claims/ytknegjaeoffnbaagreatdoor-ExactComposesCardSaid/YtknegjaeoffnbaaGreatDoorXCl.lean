/- The law ExactComposes answers true whatever its input, and leaves its input as it was; condition: the listed variables of the library hold what the program lays into them. -/
import Derived.Test.YtknegjaeoffnbaaGreatDoorE0XCl
import Derived.Test.YtknegjaeoffnbaaGreatDoorTie
set_option linter.all false
set_option maxHeartbeats 4000000
namespace Go.Proofs.YtknegjaeoffnbaaGreatDoor
section
open Go.RowKit Go.ChangeShapes Go.WideShapes Ig
theorem Xbx:Rows.exactComposesRow.wf (OpenSpec.ofChange Rows.exactComposesSpec)=true:=by kernel_rfl
theorem Xbw:Tryz.f13.params.all (Tryz.checked.prog.readableRec ·)=true:=by kernel_rfl
theorem Xbv:namedTie Tryz.checked.prog Rows.exactComposesRow.named Rows.exactComposesSpec.vars=true:=by kernel_rfl
theorem Xbu:(Rows.exactComposesRow.stops==[])=true:=by kernel_rfl
theorem Xbt:(Tryz.checked.prog.stops==[])=true:=by kernel_rfl
theorem Xbs:(Rows.exactComposesRow.knobs==[])=true:=by kernel_rfl
theorem Xbr:(Tryz.checked.prog.stopKnobs==[])=true:=by kernel_rfl
theorem Xbq:(Rows.exactComposesRow.inPlace==Tryz.checked.prog.inPlace 13)=true:=by kernel_rfl
theorem Xbp:(Rows.exactComposesRow.unfollowed==Tryz.checked.prog.unfollowed 13)=true:=by kernel_rfl
theorem Xbo:(Rows.exactComposesRow.recurses==Tryz.checked.prog.recurses 13)=true:=by kernel_rfl
theorem Xbg:(Rows.exactComposesRow.named==Tryz.checked.prog.varsNamed 13)=true:=by kernel_rfl
theorem Xbf:(Rows.exactComposesRow.maps==(Tryz.f13.params.toList++Rows.exactComposesSpec.plain.varTypes Tryz.checked.prog).any (Tryz.checked.prog.mapsRec ·))=true:=by kernel_rfl
theorem Xbe:(Rows.exactComposesRow.ifaces==(Tryz.f13.params.toList++Rows.exactComposesSpec.plain.varTypes Tryz.checked.prog).any (Tryz.checked.prog.ifacesRec ·))=true:=by kernel_rfl
theorem Xbd:(Rows.exactComposesRow.mapsOut==Tryz.checked.prog.mapsAmong Tryz.f13.resultTypes.toList)=true:=by kernel_rfl
theorem Xbc:(Rows.exactComposesRow.loops==(Tryz.f13.params.toList++Rows.exactComposesSpec.plain.varTypes Tryz.checked.prog).any (Tryz.checked.prog.loopsFrom ·))=true:=by kernel_rfl
theorem Xbb:(Rows.exactComposesRow.wideKeys==(Tryz.f13.params.toList++Rows.exactComposesSpec.plain.varTypes Tryz.checked.prog++Tryz.f13.resultTypes.toList).any (Tryz.checked.prog.wideKeysFrom ·))=true:=by kernel_rfl
theorem Xba:Rows.exactComposesSpec.vars.all (Tryz.checked.prog.varReadable ·)=true:=by kernel_rfl
theorem Xb9:(Tryz.f13.resultTypes.all (fun t=>Tryz.checked.prog.readableRec t&&decide (t<Tryz.checked.prog.types.size)))=true:=by kernel_rfl
theorem Xb8:(Rows.exactComposesRow.ifacesOut==Tryz.f13.resultTypes.toList.any (Tryz.checked.prog.ifacesRec ·))=true:=by kernel_rfl
theorem Xb7:(Rows.exactComposesRow.loopsOut==Tryz.f13.resultTypes.toList.any (Tryz.checked.prog.loopsFrom ·))=true:=by kernel_rfl
theorem Xb6:Rows.exactComposesRow.shortTexts.isNone=true:=by kernel_rfl
theorem Xb5:(Rows.exactComposesRow.pinned==Rows.exactComposesRow.pinnedBy)=true:=by kernel_rfl
theorem Xb4:(Rows.exactComposesRow.veiled==(Tryz.f13.params.toList++Rows.exactComposesSpec.plain.varTypes Tryz.checked.prog++Tryz.f13.resultTypes.toList).any (Tryz.checked.prog.veiledRec ·))=true:=by kernel_rfl
theorem Xb3:Rows.exactComposesRow.veiledFits Tryz.checked.prog Tryz.f13.params.toList (Tryz.f13.params.toList++Rows.exactComposesSpec.plain.varTypes Tryz.checked.prog++Tryz.f13.resultTypes.toList)=true:=by kernel_rfl
theorem Xag:joinedFacts Tryz.checked.prog 13 Tryz.f13 Rows.exactComposesSpec Rows.exactComposesRow=true:=by
 unfold joinedFacts
 exact YK (YK (YK (YK (YK (YK (YK (YK (YK (YK (YK (YK (YK (YK (YK (YK (YK (YK (YK (YK (YK (YK (YK (YK (YK (YK (YK (YK (YK (YK (YK Xbx yt) yk) Xbw) Xbv) Xbu) Xbt) Xbs) Xbr) Xbq) Xbp) Xbo) Xbg) Xbf) Xbe) Xbd) Xbc) Xbb) Xba) Xb9) Xb8) Xb7) yu) Xb6) xA) xB) yr) yo) (by kernel_rfl)) Xb5) Xb4) Xb3
theorem Xav {H:Type} (enc:TypeId×Value→H) (os:Os):Rows.exactComposesSpec.preB enc Tryz.checked.prog Tryz.f13 [] false ((World.doorLaid Tryz.prog 4000 os).forCall (fun _ _=>0) ⟨#[],#[.agg #[.slice none 0 0,.slice none 0 0,.slice none 0 0],.agg #[.string ⟨#[]⟩,.string ⟨#[]⟩,.string ⟨#[]⟩]],[]⟩).memory #[.agg #[.slice none 0 0,.slice none 0 0,.slice none 0 0],.agg #[.string ⟨#[]⟩,.string ⟨#[]⟩,.string ⟨#[]⟩]] 8=true:=by kernel_rfl
theorem Xaj {H:Type} (enc:TypeId×Value→H) (os:Os):Rows.exactComposesSpec.sizedB enc Tryz.checked.prog Tryz.f13 false ((World.doorLaid Tryz.prog 4000 os).forCall (fun _ _=>0) ⟨#[],#[.agg #[.slice none 0 0,.slice none 0 0,.slice none 0 0],.agg #[.string ⟨#[]⟩,.string ⟨#[]⟩,.string ⟨#[]⟩]],[]⟩).memory #[.agg #[.slice none 0 0,.slice none 0 0,.slice none 0 0],.agg #[.string ⟨#[]⟩,.string ⟨#[]⟩,.string ⟨#[]⟩]] 8=true:=by kernel_rfl
theorem Xaw (os:Os):Input.okWideB Tryz.checked.prog ((World.doorLaid Tryz.prog 4000 os).forCall (fun _ _=>0) ⟨#[],#[.agg #[.slice none 0 0,.slice none 0 0,.slice none 0 0],.agg #[.string ⟨#[]⟩,.string ⟨#[]⟩,.string ⟨#[]⟩]],[]⟩) 13 ⟨#[],#[.agg #[.slice none 0 0,.slice none 0 0,.slice none 0 0],.agg #[.string ⟨#[]⟩,.string ⟨#[]⟩,.string ⟨#[]⟩]],[]⟩=true:=by kernel_rfl
theorem Xae (os:Os):((World.doorLaid Tryz.prog 4000 os).forCall (fun _ _=>0) ⟨#[],#[.agg #[.slice none 0 0,.slice none 0 0,.slice none 0 0],.agg #[.string ⟨#[]⟩,.string ⟨#[]⟩,.string ⟨#[]⟩]],[]⟩).Shaped Tryz.checked.prog:=World.shaped_of_RefB (by kernel_rfl) (by kernel_rfl)
theorem Xax:Tryz.prog.inits.idxOf? 13=none:=by kernel_rfl
theorem Xar:(Tryz.f13.params.toList.all fun t=>Tryz.prog.readableRec t&&decide (t<Tryz.prog.types.size))=true:=by kernel_rfl
set_option maxRecDepth 100000 in
theorem Xaf (os:Os) (started:os.Started) (H:Type) (enc:TypeId×Value→H) :
  ReturnsInHanded {} Tryz.checked os 13 .any (fun w args=>(Rows.exactComposesSpec.pre enc Tryz.prog Tryz.f13 [] false w args∧laidMetH Tryz.prog Pu w)∧sizedMet enc Tryz.prog Tryz.f13 (OpenSpec.ofChange Rows.exactComposesSpec) false w args)
   (Rows.exactComposesSpec.post enc Tryz.prog Tryz.f13 false true false false):=by
 refine Ol os started enc Tryz.func13 Xax rfl (fun ds h=>?_) rfl Xar
  (ChangeSpec.witness_shaped (enc:=enc) (C:=Tryz.checked) (os:=os) (X:=fun w _=>laidMetH Tryz.prog Pu w) false (World.doorLaid Tryz.prog 4000 os) #[.agg #[.slice none 0 0,.slice none 0 0,.slice none 0 0],.agg #[.string ⟨#[]⟩,.string ⟨#[]⟩,.string ⟨#[]⟩]] 8 rfl (Xae os) (Xaw os) (Xav enc os) (Xaj enc os) (xW os _)) ?_
 ·match ds,h with
  |[d1,d2],_=>rfl
 ·intro W base args ds ps hval hA hF hG
  have hval:∀ (j:Nat) t v,(#[53,109]:Array TypeId)[j]?=some t→args[j]?=some v→Value.okWide Tryz.prog W .any base t v:=hval
  have hA:DataW.TrodAll enc Tryz.prog W 0 (fun _=>true) true [53,109] args.toList ds ps:=hA
  obtain ⟨v0,v1,d0,d1,p0,p1,rfl,rfl,rfl,h0,h1⟩:=trodAll_two hA
  obtain ⟨x,y,z,rfl,hp⟩:=dm (hval 0 _ _ rfl rfl) h0
  obtain ⟨x0,x1,x2,rfl⟩:=dj (hval 1 _ _ rfl rfl) h1
  have a0:=hp x (by simp)
  have a1:=hp y (by simp)
  have a2:=hp z (by simp)
  exact Xc1 hF hG a0.1 a1.1 a2.1 a0.2.1 a1.2.1 a2.2.1 a0.2.2 a1.2.2 a2.2.2
theorem Xa5:Tryz.prog.funcNamed "integraph/integraphlaw01.ExactComposes" = some 13:=by kernel_rfl
theorem Xas:Tryz.f13.isInstance Tryz.checked.prog Rows.exactComposesRow.origin Rows.exactComposesRow.targs:=dec_t (by kernel_rfl)
theorem Xaq:Tryz.f13.isWrapper Tryz.checked.prog Rows.exactComposesRow.wrapper Rows.exactComposesRow.mainSum:=by unfold Func.isWrapper;first | (rw [if_pos (by decide +kernel)];kernel_rfl) | (rw [if_neg (by decide +kernel)];exact⟨rfl,rfl⟩)
theorem exactComposes_holds:Rows.ExactComposesSaid :=
 OpenClaim.holds_of_wide 13 Tryz.f13 rfl rfl rfl rfl rfl rfl rfl ⟨rfl,rfl,rfl,rfl,rfl⟩ rfl rfl rfl rfl rfl Xa5 Tryz.func13 Xag Xas Xaq
  (fun os started H enc _=>Xaf os started H enc)
theorem Xah:Rows.exactComposesRow.wfByText (OpenSpec.ofChange Rows.exactComposesSpec)=true:=by kernel_rfl
theorem Xai:(Tryz.f13.params.toList.all fun u=>!Tryz.prog.wantsStandIn u)=true:=by kernel_rfl
theorem Xat:false=Rows.exactComposesRow.goesBy Tryz.checked.prog:=by kernel_rfl
theorem exactComposes_card_holds:Rows.ExactComposesCardSaid :=
 Claim7.holds_tied_plain_at .later [] [.data,.data,.data,.sentinel,.sentinel] true (true, "0bd04a9777c06c4babd2615d738c4370e7ee42132e89b6db1518d6fd8816c7a6") true
  exactComposes_holds (fun _ h=>by cases h) Xah (fun _ h=>by cases h) exactComposes_row_tie rfl ⟨rfl,rfl⟩ yp rfl
  (fun f fn hf hfn=>by
   obtain rfl:f=13:=Option.some.inj (Xa5.symm.trans hf) |>.symm
   obtain rfl:fn=Tryz.f13:=(Option.some.inj (Tryz.func13.symm.trans hfn)).symm
   exact⟨j9,fun j t ht=>by
    have hm:t∈Tryz.f13.params.toList:=by simpa using Array.mem_of_getElem? ht
    exact(show Tryz.prog.wantsStandIn t=false by simpa using List.all_eq_true.1 Xai t hm)⟩)
  Xat
#print axioms exactComposes_card_holds
end
end Go.Proofs.YtknegjaeoffnbaaGreatDoor
