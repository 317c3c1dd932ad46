/- The law ExactRing answers true whatever its input, and leaves its input as it was; condition: the listed variables of the library hold what the program lays into them. -/
import Derived.Test.YtknegjaeoffnbaaGreatDoorE0XCj
import Derived.Test.YtknegjaeoffnbaaGreatDoorTie
set_option linter.all false
set_option maxHeartbeats 4000000
namespace Go.Proofs.YtknegjaeoffnbaaGreatDoor
section
open Go.RowKit Go.ChangeShapes Go.WideShapes Ig
theorem pG:Rows.exactRingRow.wf (OpenSpec.ofChange Rows.exactRingSpec)=true:=by kernel_rfl
theorem pF:Tryz.f15.params.all (Tryz.checked.prog.readableRec ·)=true:=by kernel_rfl
theorem pE:namedTie Tryz.checked.prog Rows.exactRingRow.named Rows.exactRingSpec.vars=true:=by kernel_rfl
theorem pD:(Rows.exactRingRow.stops==[])=true:=by kernel_rfl
theorem pC:(Tryz.checked.prog.stops==[])=true:=by kernel_rfl
theorem pB:(Rows.exactRingRow.knobs==[])=true:=by kernel_rfl
theorem pA:(Tryz.checked.prog.stopKnobs==[])=true:=by kernel_rfl
theorem dz:(Rows.exactRingRow.inPlace==Tryz.checked.prog.inPlace 15)=true:=by kernel_rfl
theorem dy:(Rows.exactRingRow.unfollowed==Tryz.checked.prog.unfollowed 15)=true:=by kernel_rfl
theorem dx:(Rows.exactRingRow.recurses==Tryz.checked.prog.recurses 15)=true:=by kernel_rfl
theorem gK:(Rows.exactRingRow.named==Tryz.checked.prog.varsNamed 15)=true:=by kernel_rfl
theorem gJ:(Rows.exactRingRow.maps==(Tryz.f15.params.toList++Rows.exactRingSpec.plain.varTypes Tryz.checked.prog).any (Tryz.checked.prog.mapsRec ·))=true:=by kernel_rfl
theorem gI:(Rows.exactRingRow.ifaces==(Tryz.f15.params.toList++Rows.exactRingSpec.plain.varTypes Tryz.checked.prog).any (Tryz.checked.prog.ifacesRec ·))=true:=by kernel_rfl
theorem gH:(Rows.exactRingRow.mapsOut==Tryz.checked.prog.mapsAmong Tryz.f15.resultTypes.toList)=true:=by kernel_rfl
theorem gG:(Rows.exactRingRow.loops==(Tryz.f15.params.toList++Rows.exactRingSpec.plain.varTypes Tryz.checked.prog).any (Tryz.checked.prog.loopsFrom ·))=true:=by kernel_rfl
theorem gF:(Rows.exactRingRow.wideKeys==(Tryz.f15.params.toList++Rows.exactRingSpec.plain.varTypes Tryz.checked.prog++Tryz.f15.resultTypes.toList).any (Tryz.checked.prog.wideKeysFrom ·))=true:=by kernel_rfl
theorem gE:Rows.exactRingSpec.vars.all (Tryz.checked.prog.varReadable ·)=true:=by kernel_rfl
theorem gD:(Tryz.f15.resultTypes.all (fun t=>Tryz.checked.prog.readableRec t&&decide (t<Tryz.checked.prog.types.size)))=true:=by kernel_rfl
theorem gC:(Rows.exactRingRow.ifacesOut==Tryz.f15.resultTypes.toList.any (Tryz.checked.prog.ifacesRec ·))=true:=by kernel_rfl
theorem gB:(Rows.exactRingRow.loopsOut==Tryz.f15.resultTypes.toList.any (Tryz.checked.prog.loopsFrom ·))=true:=by kernel_rfl
theorem gA:Rows.exactRingRow.shortTexts.isNone=true:=by kernel_rfl
theorem v8:(Rows.exactRingRow.pinned==Rows.exactRingRow.pinnedBy)=true:=by kernel_rfl
theorem vz:(Rows.exactRingRow.veiled==(Tryz.f15.params.toList++Rows.exactRingSpec.plain.varTypes Tryz.checked.prog++Tryz.f15.resultTypes.toList).any (Tryz.checked.prog.veiledRec ·))=true:=by kernel_rfl
theorem vw:Rows.exactRingRow.veiledFits Tryz.checked.prog Tryz.f15.params.toList (Tryz.f15.params.toList++Rows.exactRingSpec.plain.varTypes Tryz.checked.prog++Tryz.f15.resultTypes.toList)=true:=by kernel_rfl
theorem qx:joinedFacts Tryz.checked.prog 15 Tryz.f15 Rows.exactRingSpec Rows.exactRingRow=true:=by
 unfold joinedFacts
 exact YK (YK (YK (YK (YK (YK (YK (YK (YK (YK (YK (YK (YK (YK (YK (YK (YK (YK (YK (YK (YK (YK (YK (YK (YK (YK (YK (YK (YK (YK (YK pG yt) yk) pF) pE) pD) pC) pB) pA) dz) dy) dx) gK) gJ) gI) gH) gG) gF) gE) gD) gC) gB) yu) gA) xA) xB) yr) yo) (by kernel_rfl)) v8) vz) vw
theorem kH {H:Type} (enc:TypeId×Value→H) (os:Os):Rows.exactRingSpec.preB enc Tryz.checked.prog Tryz.f15 [] false ((World.doorLaid Tryz.prog 4000 os).forCall (fun _ _=>0) ⟨#[],#[.agg #[.slice none 0 0,.slice none 0 0,.slice none 0 0],.agg #[.string ⟨#[]⟩,.string ⟨#[]⟩,.string ⟨#[]⟩]],[]⟩).memory #[.agg #[.slice none 0 0,.slice none 0 0,.slice none 0 0],.agg #[.string ⟨#[]⟩,.string ⟨#[]⟩,.string ⟨#[]⟩]] 8=true:=by kernel_rfl
theorem xN {H:Type} (enc:TypeId×Value→H) (os:Os):Rows.exactRingSpec.sizedB enc Tryz.checked.prog Tryz.f15 false ((World.doorLaid Tryz.prog 4000 os).forCall (fun _ _=>0) ⟨#[],#[.agg #[.slice none 0 0,.slice none 0 0,.slice none 0 0],.agg #[.string ⟨#[]⟩,.string ⟨#[]⟩,.string ⟨#[]⟩]],[]⟩).memory #[.agg #[.slice none 0 0,.slice none 0 0,.slice none 0 0],.agg #[.string ⟨#[]⟩,.string ⟨#[]⟩,.string ⟨#[]⟩]] 8=true:=by kernel_rfl
theorem kI (os:Os):Input.okWideB Tryz.checked.prog ((World.doorLaid Tryz.prog 4000 os).forCall (fun _ _=>0) ⟨#[],#[.agg #[.slice none 0 0,.slice none 0 0,.slice none 0 0],.agg #[.string ⟨#[]⟩,.string ⟨#[]⟩,.string ⟨#[]⟩]],[]⟩) 15 ⟨#[],#[.agg #[.slice none 0 0,.slice none 0 0,.slice none 0 0],.agg #[.string ⟨#[]⟩,.string ⟨#[]⟩,.string ⟨#[]⟩]],[]⟩=true:=by kernel_rfl
theorem qu (os:Os):((World.doorLaid Tryz.prog 4000 os).forCall (fun _ _=>0) ⟨#[],#[.agg #[.slice none 0 0,.slice none 0 0,.slice none 0 0],.agg #[.string ⟨#[]⟩,.string ⟨#[]⟩,.string ⟨#[]⟩]],[]⟩).Shaped Tryz.checked.prog:=World.shaped_of_RefB (by kernel_rfl) (by kernel_rfl)
theorem kJ:Tryz.prog.inits.idxOf? 15=none:=by kernel_rfl
theorem zf:(Tryz.f15.params.toList.all fun t=>Tryz.prog.readableRec t&&decide (t<Tryz.prog.types.size))=true:=by kernel_rfl
set_option maxRecDepth 100000 in
theorem qw (os:Os) (started:os.Started) (H:Type) (enc:TypeId×Value→H) :
  ReturnsInHanded {} Tryz.checked os 15 .any (fun w args=>(Rows.exactRingSpec.pre enc Tryz.prog Tryz.f15 [] false w args∧laidMetH Tryz.prog Pu w)∧sizedMet enc Tryz.prog Tryz.f15 (OpenSpec.ofChange Rows.exactRingSpec) false w args)
   (Rows.exactRingSpec.post enc Tryz.prog Tryz.f15 false true false false):=by
 refine Ol os started enc Tryz.func15 kJ rfl (fun ds h=>?_) rfl zf
  (ChangeSpec.witness_shaped (enc:=enc) (C:=Tryz.checked) (os:=os) (X:=fun w _=>laidMetH Tryz.prog Pu w) false (World.doorLaid Tryz.prog 4000 os) #[.agg #[.slice none 0 0,.slice none 0 0,.slice none 0 0],.agg #[.string ⟨#[]⟩,.string ⟨#[]⟩,.string ⟨#[]⟩]] 8 rfl (qu os) (kI os) (kH enc os) (xN enc os) (xW os _)) ?_
 ·match ds,h with
  |[d1,d2],_=>rfl
 ·intro W base args ds ps hval hA hF hG
  have hval:∀ (j:Nat) t v,(#[53,109]:Array TypeId)[j]?=some t→args[j]?=some v→Value.okWide Tryz.prog W .any base t v:=hval
  have hA:DataW.TrodAll enc Tryz.prog W 0 (fun _=>true) true [53,109] args.toList ds ps:=hA
  obtain ⟨v0,v1,d0,d1,p0,p1,rfl,rfl,rfl,h0,h1⟩:=trodAll_two hA
  obtain ⟨x,y,z,rfl,hp⟩:=dm (hval 0 _ _ rfl rfl) h0
  obtain ⟨x0,x1,x2,rfl⟩:=dj (hval 1 _ _ rfl rfl) h1
  have a0:=hp x (by simp)
  have a1:=hp y (by simp)
  have a2:=hp z (by simp)
  exact uK hF hG a0.1 a1.1 a2.1 a0.2.1 a1.2.1 a2.2.1 a0.2.2 a1.2.2 a2.2.2
theorem I6:Tryz.prog.funcNamed "integraph/integraphlaw01.ExactRing" = some 15:=by kernel_rfl
theorem zg:Tryz.f15.isInstance Tryz.checked.prog Rows.exactRingRow.origin Rows.exactRingRow.targs:=dec_t (by kernel_rfl)
theorem ze:Tryz.f15.isWrapper Tryz.checked.prog Rows.exactRingRow.wrapper Rows.exactRingRow.mainSum:=by unfold Func.isWrapper;first | (rw [if_pos (by decide +kernel)];kernel_rfl) | (rw [if_neg (by decide +kernel)];exact⟨rfl,rfl⟩)
theorem exactRing_holds:Rows.ExactRingSaid :=
 OpenClaim.holds_of_wide 15 Tryz.f15 rfl rfl rfl rfl rfl rfl rfl ⟨rfl,rfl,rfl,rfl,rfl⟩ rfl rfl rfl rfl rfl I6 Tryz.func15 qx zg ze
  (fun os started H enc _=>qw os started H enc)
theorem qy:Rows.exactRingRow.wfByText (OpenSpec.ofChange Rows.exactRingSpec)=true:=by kernel_rfl
theorem xM:(Tryz.f15.params.toList.all fun u=>!Tryz.prog.wantsStandIn u)=true:=by kernel_rfl
theorem zh:false=Rows.exactRingRow.goesBy Tryz.checked.prog:=by kernel_rfl
theorem exactRing_card_holds:Rows.ExactRingCardSaid :=
 Claim7.holds_tied_plain_at .later [] [.data,.data,.data,.sentinel,.sentinel] true (true, "0bd04a9777c06c4babd2615d738c4370e7ee42132e89b6db1518d6fd8816c7a6") true
  exactRing_holds (fun _ h=>by cases h) qy (fun _ h=>by cases h) exactRing_row_tie rfl ⟨rfl,rfl⟩ yp rfl
  (fun f fn hf hfn=>by
   obtain rfl:f=15:=Option.some.inj (I6.symm.trans hf) |>.symm
   obtain rfl:fn=Tryz.f15:=(Option.some.inj (Tryz.func15.symm.trans hfn)).symm
   exact⟨j9,fun j t ht=>by
    have hm:t∈Tryz.f15.params.toList:=by simpa using Array.mem_of_getElem? ht
    exact(show Tryz.prog.wantsStandIn t=false by simpa using List.all_eq_true.1 xM t hm)⟩)
  zh
#print axioms exactRing_card_holds
end
end Go.Proofs.YtknegjaeoffnbaaGreatDoor
