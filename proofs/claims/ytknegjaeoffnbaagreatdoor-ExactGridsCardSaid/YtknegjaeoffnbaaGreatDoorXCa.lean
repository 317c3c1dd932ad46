/- The law ExactGrids answers true whatever its input, and leaves its input as it was; condition: the listed variables of the library hold what the program lays into them. -/
import Derived.Test.YtknegjaeoffnbaaGreatDoorP5
import Derived.Test.YtknegjaeoffnbaaGreatDoorTie
set_option linter.all false
namespace Go.Proofs.YtknegjaeoffnbaaGreatDoor
section
open Go.RowKit Go.ChangeShapes Go.WideShapes Ig
theorem C2:Rows.exactGridsRow.wf (OpenSpec.ofChange Rows.exactGridsSpec)=true:=by kernel_rfl
theorem C1:Tryz.f3.params.all (Tryz.checked.prog.readableRec ·)=true:=by kernel_rfl
theorem C0:namedTie Tryz.checked.prog Rows.exactGridsRow.named Rows.exactGridsSpec.vars=true:=by kernel_rfl
theorem Cz:(Rows.exactGridsRow.stops==[])=true:=by kernel_rfl
theorem Cy:(Tryz.checked.prog.stops==[])=true:=by kernel_rfl
theorem Cx:(Rows.exactGridsRow.knobs==[])=true:=by kernel_rfl
theorem Cw:(Tryz.checked.prog.stopKnobs==[])=true:=by kernel_rfl
theorem Cv:(Rows.exactGridsRow.inPlace==Tryz.checked.prog.inPlace 3)=true:=by kernel_rfl
theorem Cu:(Rows.exactGridsRow.unfollowed==Tryz.checked.prog.unfollowed 3)=true:=by kernel_rfl
theorem Ct:(Rows.exactGridsRow.recurses==Tryz.checked.prog.recurses 3)=true:=by kernel_rfl
theorem Lb:(Rows.exactGridsRow.named==Tryz.checked.prog.varsNamed 3)=true:=by kernel_rfl
theorem La:(Rows.exactGridsRow.maps==(Tryz.f3.params.toList++Rows.exactGridsSpec.plain.varTypes Tryz.checked.prog).any (Tryz.checked.prog.mapsRec ·))=true:=by kernel_rfl
theorem LZ:(Rows.exactGridsRow.ifaces==(Tryz.f3.params.toList++Rows.exactGridsSpec.plain.varTypes Tryz.checked.prog).any (Tryz.checked.prog.ifacesRec ·))=true:=by kernel_rfl
theorem LY:(Rows.exactGridsRow.mapsOut==Tryz.checked.prog.mapsAmong Tryz.f3.resultTypes.toList)=true:=by kernel_rfl
theorem LX:(Rows.exactGridsRow.loops==(Tryz.f3.params.toList++Rows.exactGridsSpec.plain.varTypes Tryz.checked.prog).any (Tryz.checked.prog.loopsFrom ·))=true:=by kernel_rfl
theorem LW:(Rows.exactGridsRow.wideKeys==(Tryz.f3.params.toList++Rows.exactGridsSpec.plain.varTypes Tryz.checked.prog++Tryz.f3.resultTypes.toList).any (Tryz.checked.prog.wideKeysFrom ·))=true:=by kernel_rfl
theorem LV:Rows.exactGridsSpec.vars.all (Tryz.checked.prog.varReadable ·)=true:=by kernel_rfl
theorem LU:(Tryz.f3.resultTypes.all (fun t=>Tryz.checked.prog.readableRec t&&decide (t<Tryz.checked.prog.types.size)))=true:=by kernel_rfl
theorem LS:(Rows.exactGridsRow.ifacesOut==Tryz.f3.resultTypes.toList.any (Tryz.checked.prog.ifacesRec ·))=true:=by kernel_rfl
theorem LR:(Rows.exactGridsRow.loopsOut==Tryz.f3.resultTypes.toList.any (Tryz.checked.prog.loopsFrom ·))=true:=by kernel_rfl
theorem LQ:Rows.exactGridsRow.shortTexts.isNone=true:=by kernel_rfl
theorem LP:(Rows.exactGridsRow.pinned==Rows.exactGridsRow.pinnedBy)=true:=by kernel_rfl
theorem LO:(Rows.exactGridsRow.veiled==(Tryz.f3.params.toList++Rows.exactGridsSpec.plain.varTypes Tryz.checked.prog++Tryz.f3.resultTypes.toList).any (Tryz.checked.prog.veiledRec ·))=true:=by kernel_rfl
theorem LN:Rows.exactGridsRow.veiledFits Tryz.checked.prog Tryz.f3.params.toList (Tryz.f3.params.toList++Rows.exactGridsSpec.plain.varTypes Tryz.checked.prog++Tryz.f3.resultTypes.toList)=true:=by kernel_rfl
theorem Pb:joinedFacts Tryz.checked.prog 3 Tryz.f3 Rows.exactGridsSpec Rows.exactGridsRow=true:=by
 unfold joinedFacts
 exact XI (XI (XI (XI (XI (XI (XI (XI (XI (XI (XI (XI (XI (XI (XI (XI (XI (XI (XI (XI (XI (XI (XI (XI (XI (XI (XI (XI (XI (XI (XI C2 jT) jP) C1) C0) Cz) Cy) Cx) Cw) Cv) Cu) Ct) Lb) La) LZ) LY) LX) LW) LV) LU) LS) LR) jU) LQ) CQ) CR) jS) jQ) (by kernel_rfl)) LP) LO) LN
theorem FE {H:Type} (enc:TypeId×Value→H) (os:Os):Rows.exactGridsSpec.preB enc Tryz.checked.prog Tryz.f3 [] false ((World.doorLaid Tryz.prog 4000 os).forCall (fun _ _=>0) ⟨#[],#[.agg #[.string ⟨#[]⟩,.string ⟨#[]⟩],.int .i64 0],[]⟩).memory #[.agg #[.string ⟨#[]⟩,.string ⟨#[]⟩],.int .i64 0] 8=true:=by kernel_rfl
theorem Sf {H:Type} (enc:TypeId×Value→H) (os:Os):Rows.exactGridsSpec.sizedB enc Tryz.checked.prog Tryz.f3 false ((World.doorLaid Tryz.prog 4000 os).forCall (fun _ _=>0) ⟨#[],#[.agg #[.string ⟨#[]⟩,.string ⟨#[]⟩],.int .i64 0],[]⟩).memory #[.agg #[.string ⟨#[]⟩,.string ⟨#[]⟩],.int .i64 0] 8=true:=by kernel_rfl
theorem FF (os:Os):Input.okWideB Tryz.checked.prog ((World.doorLaid Tryz.prog 4000 os).forCall (fun _ _=>0) ⟨#[],#[.agg #[.string ⟨#[]⟩,.string ⟨#[]⟩],.int .i64 0],[]⟩) 3 ⟨#[],#[.agg #[.string ⟨#[]⟩,.string ⟨#[]⟩],.int .i64 0],[]⟩=true:=by kernel_rfl
theorem PZ (os:Os):((World.doorLaid Tryz.prog 4000 os).forCall (fun _ _=>0) ⟨#[],#[.agg #[.string ⟨#[]⟩,.string ⟨#[]⟩],.int .i64 0],[]⟩).Shaped Tryz.checked.prog:=World.shaped_of_RefB (by kernel_rfl) (by kernel_rfl)
theorem FG:Tryz.prog.inits.idxOf? 3=none:=by kernel_rfl
theorem Ub:(Tryz.f3.params.toList.all fun t=>Tryz.prog.readableRec t&&decide (t<Tryz.prog.types.size))=true:=by kernel_rfl
set_option maxRecDepth 100000 in
theorem Pa (os:Os) (started:os.Started) (H:Type) (enc:TypeId×Value→H) :
  ReturnsInHanded {} Tryz.checked os 3 .any (fun w args=>(Rows.exactGridsSpec.pre enc Tryz.prog Tryz.f3 [] false w args∧laidMetH Tryz.prog Nf w)∧sizedMet enc Tryz.prog Tryz.f3 (OpenSpec.ofChange Rows.exactGridsSpec) false w args)
   (Rows.exactGridsSpec.post enc Tryz.prog Tryz.f3 false true false false):=by
 refine FD os started enc Tryz.func3 FG rfl (fun ds h=>?_) rfl Ub
  (ChangeSpec.witness_shaped (enc:=enc) (C:=Tryz.checked) (os:=os) (X:=fun w _=>laidMetH Tryz.prog Nf w) false (World.doorLaid Tryz.prog 4000 os) #[.agg #[.string ⟨#[]⟩,.string ⟨#[]⟩],.int .i64 0] 8 rfl (PZ os) (FF os) (FE enc os) (Sf enc os) (qF os _)) ?_
 ·match ds,h with
  |[d1,d2],_=>rfl
 ·intro W base args ds ps hval hA hF hG
  have hval:∀ (j:Nat) t v,(#[24,3]:Array TypeId)[j]?=some t→args[j]?=some v→Value.okWide Tryz.prog W .any base t v:=hval
  have hA:DataW.TrodAll enc Tryz.prog W 0 (fun _=>true) true [24,3] args.toList ds ps:=hA
  obtain ⟨v0,v1,d0,d1,p0,p1,rfl,rfl,rfl,h0,h1⟩:=trodAll_two hA
  obtain ⟨lo,hi,rfl⟩:=I9 (hval 0 _ _ rfl rfl) h0
  obtain ⟨b,rfl,_⟩:=open_int kL (hval 1 _ _ rfl rfl) h1
  exact j7 hF hG
theorem Bw:Tryz.prog.funcNamed "integraph/integraphlaw01.ExactGrids" = some 3:=by kernel_rfl
theorem Uc:Tryz.f3.isInstance Tryz.checked.prog Rows.exactGridsRow.origin Rows.exactGridsRow.targs:=of_decide_eq_true (by kernel_rfl)
theorem Ua:Tryz.f3.isWrapper Tryz.checked.prog Rows.exactGridsRow.wrapper Rows.exactGridsRow.mainSum:=by unfold Func.isWrapper;first | (rw [if_pos (by decide +kernel)];kernel_rfl) | (rw [if_neg (by decide +kernel)];exact⟨rfl,rfl⟩)
theorem exactGrids_holds:Rows.ExactGridsSaid :=
 OpenClaim.holds_of_wide 3 Tryz.f3 rfl rfl rfl rfl rfl rfl rfl ⟨rfl,rfl,rfl,rfl,rfl⟩ rfl rfl rfl rfl rfl Bw Tryz.func3 Pb Uc Ua
  (fun os started H enc _=>Pa os started H enc)
theorem Pc:Rows.exactGridsRow.wfByText (OpenSpec.ofChange Rows.exactGridsSpec)=true:=by kernel_rfl
theorem Se:(Tryz.f3.params.toList.all fun u=>!Tryz.prog.wantsStandIn u)=true:=by kernel_rfl
theorem Ud:false=Rows.exactGridsRow.goesBy Tryz.checked.prog:=by kernel_rfl
theorem exactGrids_card_holds:Rows.ExactGridsCardSaid :=
 Claim7.holds_tied_plain_at .later [] [.data,.data,.data,.sentinel,.sentinel] true (true, "0bd04a9777c06c4babd2615d738c4370e7ee42132e89b6db1518d6fd8816c7a6") true
  exactGrids_holds (fun _ h=>by cases h) Pc (fun _ h=>by cases h) exactGrids_row_tie rfl ⟨rfl,rfl⟩ jR rfl
  (fun f fn hf hfn=>by
   obtain rfl:f=3:=Option.some.inj (Bw.symm.trans hf) |>.symm
   obtain rfl:fn=Tryz.f3:=(Option.some.inj (Tryz.func3.symm.trans hfn)).symm
   exact⟨CP,fun j t ht=>by
    have hm:t∈Tryz.f3.params.toList:=by simpa using Array.mem_of_getElem? ht
    exact(show Tryz.prog.wantsStandIn t=false by simpa using List.all_eq_true.1 Se t hm)⟩)
  Ud
#print axioms exactGrids_card_holds
end
end Go.Proofs.YtknegjaeoffnbaaGreatDoor
