/- The law ExactSpans answers true whatever its input, and leaves its input as it was; condition: the listed variables of the library hold what the program lays into them. -/
import Derived.Test.YtknegjaeoffnbaaGreatDoorE0XCc
import Derived.Test.YtknegjaeoffnbaaGreatDoorTie
set_option linter.all false
set_option maxHeartbeats 4000000
namespace Go.Proofs.YtknegjaeoffnbaaGreatDoor
section
open Go.RowKit Go.ChangeShapes Go.WideShapes Ig
theorem kW:Rows.exactSpansRow.wf (OpenSpec.ofChange Rows.exactSpansSpec)=true:=by kernel_rfl
theorem kV:Tryz.f6.params.all (Tryz.checked.prog.readableRec ·)=true:=by kernel_rfl
theorem kU:namedTie Tryz.checked.prog Rows.exactSpansRow.named Rows.exactSpansSpec.vars=true:=by kernel_rfl
theorem kT:(Rows.exactSpansRow.stops==[])=true:=by kernel_rfl
theorem kS:(Tryz.checked.prog.stops==[])=true:=by kernel_rfl
theorem kR:(Rows.exactSpansRow.knobs==[])=true:=by kernel_rfl
theorem kQ:(Tryz.checked.prog.stopKnobs==[])=true:=by kernel_rfl
theorem kP:(Rows.exactSpansRow.inPlace==Tryz.checked.prog.inPlace 6)=true:=by kernel_rfl
theorem kO:(Rows.exactSpansRow.unfollowed==Tryz.checked.prog.unfollowed 6)=true:=by kernel_rfl
theorem kN:(Rows.exactSpansRow.recurses==Tryz.checked.prog.recurses 6)=true:=by kernel_rfl
theorem yJ:(Rows.exactSpansRow.named==Tryz.checked.prog.varsNamed 6)=true:=by kernel_rfl
theorem yI:(Rows.exactSpansRow.maps==(Tryz.f6.params.toList++Rows.exactSpansSpec.plain.varTypes Tryz.checked.prog).any (Tryz.checked.prog.mapsRec ·))=true:=by kernel_rfl
theorem yH:(Rows.exactSpansRow.ifaces==(Tryz.f6.params.toList++Rows.exactSpansSpec.plain.varTypes Tryz.checked.prog).any (Tryz.checked.prog.ifacesRec ·))=true:=by kernel_rfl
theorem yG:(Rows.exactSpansRow.mapsOut==Tryz.checked.prog.mapsAmong Tryz.f6.resultTypes.toList)=true:=by kernel_rfl
theorem yF:(Rows.exactSpansRow.loops==(Tryz.f6.params.toList++Rows.exactSpansSpec.plain.varTypes Tryz.checked.prog).any (Tryz.checked.prog.loopsFrom ·))=true:=by kernel_rfl
theorem yE:(Rows.exactSpansRow.wideKeys==(Tryz.f6.params.toList++Rows.exactSpansSpec.plain.varTypes Tryz.checked.prog++Tryz.f6.resultTypes.toList).any (Tryz.checked.prog.wideKeysFrom ·))=true:=by kernel_rfl
theorem yD:Rows.exactSpansSpec.vars.all (Tryz.checked.prog.varReadable ·)=true:=by kernel_rfl
theorem yC:(Tryz.f6.resultTypes.all (fun t=>Tryz.checked.prog.readableRec t&&decide (t<Tryz.checked.prog.types.size)))=true:=by kernel_rfl
theorem yB:(Rows.exactSpansRow.ifacesOut==Tryz.f6.resultTypes.toList.any (Tryz.checked.prog.ifacesRec ·))=true:=by kernel_rfl
theorem yA:(Rows.exactSpansRow.loopsOut==Tryz.f6.resultTypes.toList.any (Tryz.checked.prog.loopsFrom ·))=true:=by kernel_rfl
theorem z8:Rows.exactSpansRow.shortTexts.isNone=true:=by kernel_rfl
theorem z7:(Rows.exactSpansRow.pinned==Rows.exactSpansRow.pinnedBy)=true:=by kernel_rfl
theorem z6:(Rows.exactSpansRow.veiled==(Tryz.f6.params.toList++Rows.exactSpansSpec.plain.varTypes Tryz.checked.prog++Tryz.f6.resultTypes.toList).any (Tryz.checked.prog.veiledRec ·))=true:=by kernel_rfl
theorem zz:Rows.exactSpansRow.veiledFits Tryz.checked.prog Tryz.f6.params.toList (Tryz.f6.params.toList++Rows.exactSpansSpec.plain.varTypes Tryz.checked.prog++Tryz.f6.resultTypes.toList)=true:=by kernel_rfl
theorem O1:joinedFacts Tryz.checked.prog 6 Tryz.f6 Rows.exactSpansSpec Rows.exactSpansRow=true:=by
 unfold joinedFacts
 exact YC (YC (YC (YC (YC (YC (YC (YC (YC (YC (YC (YC (YC (YC (YC (YC (YC (YC (YC (YC (YC (YC (YC (YC (YC (YC (YC (YC (YC (YC (YC kW zc) zW) kV) kU) kT) kS) kR) kQ) kP) kO) kN) yJ) yI) yH) yG) yF) yE) yD) yC) yB) yA) ze) z8) jU) jV) zZ) zX) (by kernel_rfl)) z7) z6) zz
theorem xh {H:Type} (enc:TypeId×Value→H) (os:Os):Rows.exactSpansSpec.preB enc Tryz.checked.prog Tryz.f6 [] false ((World.doorLaid Tryz.prog 4000 os).forCall (fun _ _=>0) ⟨#[],#[.agg #[.string ⟨#[]⟩,.string ⟨#[]⟩],.agg #[.string ⟨#[]⟩,.string ⟨#[]⟩],.int .i64 0],[]⟩).memory #[.agg #[.string ⟨#[]⟩,.string ⟨#[]⟩],.agg #[.string ⟨#[]⟩,.string ⟨#[]⟩],.int .i64 0] 8=true:=by kernel_rfl
theorem qB {H:Type} (enc:TypeId×Value→H) (os:Os):Rows.exactSpansSpec.sizedB enc Tryz.checked.prog Tryz.f6 false ((World.doorLaid Tryz.prog 4000 os).forCall (fun _ _=>0) ⟨#[],#[.agg #[.string ⟨#[]⟩,.string ⟨#[]⟩],.agg #[.string ⟨#[]⟩,.string ⟨#[]⟩],.int .i64 0],[]⟩).memory #[.agg #[.string ⟨#[]⟩,.string ⟨#[]⟩],.agg #[.string ⟨#[]⟩,.string ⟨#[]⟩],.int .i64 0] 8=true:=by kernel_rfl
theorem xi (os:Os):Input.okWideB Tryz.checked.prog ((World.doorLaid Tryz.prog 4000 os).forCall (fun _ _=>0) ⟨#[],#[.agg #[.string ⟨#[]⟩,.string ⟨#[]⟩],.agg #[.string ⟨#[]⟩,.string ⟨#[]⟩],.int .i64 0],[]⟩) 6 ⟨#[],#[.agg #[.string ⟨#[]⟩,.string ⟨#[]⟩],.agg #[.string ⟨#[]⟩,.string ⟨#[]⟩],.int .i64 0],[]⟩=true:=by kernel_rfl
theorem Oz (os:Os):((World.doorLaid Tryz.prog 4000 os).forCall (fun _ _=>0) ⟨#[],#[.agg #[.string ⟨#[]⟩,.string ⟨#[]⟩],.agg #[.string ⟨#[]⟩,.string ⟨#[]⟩],.int .i64 0],[]⟩).Shaped Tryz.checked.prog:=World.shaped_of_RefB (by kernel_rfl) (by kernel_rfl)
theorem xj:Tryz.prog.inits.idxOf? 6=none:=by kernel_rfl
theorem jg:(Tryz.f6.params.toList.all fun t=>Tryz.prog.readableRec t&&decide (t<Tryz.prog.types.size))=true:=by kernel_rfl
set_option maxRecDepth 100000 in
theorem O0 (os:Os) (started:os.Started) (H:Type) (enc:TypeId×Value→H) :
  ReturnsInHanded {} Tryz.checked os 6 .any (fun w args=>(Rows.exactSpansSpec.pre enc Tryz.prog Tryz.f6 [] false w args∧laidMetH Tryz.prog Pc w)∧sizedMet enc Tryz.prog Tryz.f6 (OpenSpec.ofChange Rows.exactSpansSpec) false w args)
   (Rows.exactSpansSpec.post enc Tryz.prog Tryz.f6 false true false false):=by
 refine OL os started enc Tryz.func6 xj rfl (fun ds h=>?_) rfl jg
  (ChangeSpec.witness_shaped (enc:=enc) (C:=Tryz.checked) (os:=os) (X:=fun w _=>laidMetH Tryz.prog Pc w) false (World.doorLaid Tryz.prog 4000 os) #[.agg #[.string ⟨#[]⟩,.string ⟨#[]⟩],.agg #[.string ⟨#[]⟩,.string ⟨#[]⟩],.int .i64 0] 8 rfl (Oz os) (xi os) (xh enc os) (qB enc os) (jr os _)) ?_
 ·match ds,h with
  |[d1,d2,d3],_=>rfl
 ·intro W base args ds ps hval hA hF hG
  have hval:∀ (j:Nat) t v,(#[24,24,3]:Array TypeId)[j]?=some t→args[j]?=some v→Value.okWide Tryz.prog W .any base t v:=hval
  have hA:DataW.TrodAll enc Tryz.prog W 0 (fun _=>true) true [24,24,3] args.toList ds ps:=hA
  obtain ⟨v0,v1,v2,d0,d1,d2,p0,p1,p2,rfl,rfl,rfl,h0,h1,h2⟩:=trodAll_three hA
  obtain ⟨lo,hi,rfl⟩:=Fi (hval 0 _ _ rfl rfl) h0
  obtain ⟨lo2,hi2,rfl⟩:=Fi (hval 1 _ _ rfl rfl) h1
  obtain ⟨n,rfl,_⟩:=open_int gO (hval 2 _ _ rfl rfl) h2
  exact ve (a:=(lo,hi)) (b:=(lo2,hi2)) hF hG
theorem Ax:Tryz.prog.funcNamed "integraph/integraphlaw01.ExactSpans" = some 6:=by kernel_rfl
theorem jh:Tryz.f6.isInstance Tryz.checked.prog Rows.exactSpansRow.origin Rows.exactSpansRow.targs:=dec_t (by kernel_rfl)
theorem jf:Tryz.f6.isWrapper Tryz.checked.prog Rows.exactSpansRow.wrapper Rows.exactSpansRow.mainSum:=by unfold Func.isWrapper;first | (rw [if_pos (by decide +kernel)];kernel_rfl) | (rw [if_neg (by decide +kernel)];exact⟨rfl,rfl⟩)
theorem exactSpans_holds:Rows.ExactSpansSaid :=
 OpenClaim.holds_of_wide 6 Tryz.f6 rfl rfl rfl rfl rfl rfl rfl ⟨rfl,rfl,rfl,rfl,rfl⟩ rfl rfl rfl rfl rfl Ax Tryz.func6 O1 jh jf
  (fun os started H enc _=>O0 os started H enc)
theorem O2:Rows.exactSpansRow.wfByText (OpenSpec.ofChange Rows.exactSpansSpec)=true:=by kernel_rfl
theorem qA:(Tryz.f6.params.toList.all fun u=>!Tryz.prog.wantsStandIn u)=true:=by kernel_rfl
theorem ji:false=Rows.exactSpansRow.goesBy Tryz.checked.prog:=by kernel_rfl
theorem exactSpans_card_holds:Rows.ExactSpansCardSaid :=
 Claim7.holds_tied_plain_at .later [] [.data,.data,.data,.sentinel,.sentinel] true (true, "0bd04a9777c06c4babd2615d738c4370e7ee42132e89b6db1518d6fd8816c7a6") true
  exactSpans_holds (fun _ h=>by cases h) O2 (fun _ h=>by cases h) exactSpans_row_tie rfl ⟨rfl,rfl⟩ zY rfl
  (fun f fn hf hfn=>by
   obtain rfl:f=6:=Option.some.inj (Ax.symm.trans hf) |>.symm
   obtain rfl:fn=Tryz.f6:=(Option.some.inj (Tryz.func6.symm.trans hfn)).symm
   exact⟨jT,fun j t ht=>by
    have hm:t∈Tryz.f6.params.toList:=by simpa using Array.mem_of_getElem? ht
    exact(show Tryz.prog.wantsStandIn t=false by simpa using List.all_eq_true.1 qA t hm)⟩)
  ji
#print axioms exactSpans_card_holds
end
end Go.Proofs.YtknegjaeoffnbaaGreatDoor
