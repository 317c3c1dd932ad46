/- The law ExactEncloses answers true whatever its input, and leaves its input as it was; condition: the listed variables of the library hold what the program lays into them. -/
import Derived.Test.YtknegjaeoffnbaaGreatDoorF1XCm
import Derived.Test.YtknegjaeoffnbaaGreatDoorTie
set_option linter.all false
set_option maxHeartbeats 4000000
namespace Go.Proofs.YtknegjaeoffnbaaGreatDoor
section
open Go.RowKit Go.ChangeShapes Go.WideShapes Ig
theorem kEncloses_0:Rows.exactEnclosesRow.wf (OpenSpec.ofChange Rows.exactEnclosesSpec)=true:=by kernel_rfl
theorem kEncloses_1:Tryz.f14.params.all (Tryz.checked.prog.readableRec ·)=true:=by kernel_rfl
theorem kEncloses_2:namedTie Tryz.checked.prog Rows.exactEnclosesRow.named Rows.exactEnclosesSpec.vars=true:=by kernel_rfl
theorem kEncloses_3:(Rows.exactEnclosesRow.stops==[])=true:=by kernel_rfl
theorem kEncloses_4:(Tryz.checked.prog.stops==[])=true:=by kernel_rfl
theorem kEncloses_5:(Rows.exactEnclosesRow.knobs==[])=true:=by kernel_rfl
theorem kEncloses_6:(Tryz.checked.prog.stopKnobs==[])=true:=by kernel_rfl
theorem kEncloses_7:(Rows.exactEnclosesRow.inPlace==Tryz.checked.prog.inPlace 14)=true:=by kernel_rfl
theorem kEncloses_8:(Rows.exactEnclosesRow.unfollowed==Tryz.checked.prog.unfollowed 14)=true:=by kernel_rfl
theorem kEncloses_9:(Rows.exactEnclosesRow.recurses==Tryz.checked.prog.recurses 14)=true:=by kernel_rfl
theorem kEncloses_10:(Rows.exactEnclosesRow.named==Tryz.checked.prog.varsNamed 14)=true:=by kernel_rfl
theorem kEncloses_11:(Rows.exactEnclosesRow.maps==(Tryz.f14.params.toList++Rows.exactEnclosesSpec.plain.varTypes Tryz.checked.prog).any (Tryz.checked.prog.mapsRec ·))=true:=by kernel_rfl
theorem kEncloses_12:(Rows.exactEnclosesRow.ifaces==(Tryz.f14.params.toList++Rows.exactEnclosesSpec.plain.varTypes Tryz.checked.prog).any (Tryz.checked.prog.ifacesRec ·))=true:=by kernel_rfl
theorem kEncloses_13:(Rows.exactEnclosesRow.mapsOut==Tryz.checked.prog.mapsAmong Tryz.f14.resultTypes.toList)=true:=by kernel_rfl
theorem kEncloses_14:(Rows.exactEnclosesRow.loops==(Tryz.f14.params.toList++Rows.exactEnclosesSpec.plain.varTypes Tryz.checked.prog).any (Tryz.checked.prog.loopsFrom ·))=true:=by kernel_rfl
theorem kEncloses_15:(Rows.exactEnclosesRow.wideKeys==(Tryz.f14.params.toList++Rows.exactEnclosesSpec.plain.varTypes Tryz.checked.prog++Tryz.f14.resultTypes.toList).any (Tryz.checked.prog.wideKeysFrom ·))=true:=by kernel_rfl
theorem kEncloses_16:Rows.exactEnclosesSpec.vars.all (Tryz.checked.prog.varReadable ·)=true:=by kernel_rfl
theorem kEncloses_17:(Tryz.f14.resultTypes.all (fun t=>Tryz.checked.prog.readableRec t&&decide (t<Tryz.checked.prog.types.size)))=true:=by kernel_rfl
theorem kEncloses_18:(Rows.exactEnclosesRow.ifacesOut==Tryz.f14.resultTypes.toList.any (Tryz.checked.prog.ifacesRec ·))=true:=by kernel_rfl
theorem kEncloses_19:(Rows.exactEnclosesRow.loopsOut==Tryz.f14.resultTypes.toList.any (Tryz.checked.prog.loopsFrom ·))=true:=by kernel_rfl
theorem kEncloses_20:Rows.exactEnclosesRow.shortTexts.isNone=true:=by kernel_rfl
theorem kEncloses_21:(Rows.exactEnclosesRow.pinned==Rows.exactEnclosesRow.pinnedBy)=true:=by kernel_rfl
theorem kEncloses_22:(Rows.exactEnclosesRow.veiled==(Tryz.f14.params.toList++Rows.exactEnclosesSpec.plain.varTypes Tryz.checked.prog++Tryz.f14.resultTypes.toList).any (Tryz.checked.prog.veiledRec ·))=true:=by kernel_rfl
theorem kEncloses_23:Rows.exactEnclosesRow.veiledFits Tryz.checked.prog Tryz.f14.params.toList (Tryz.f14.params.toList++Rows.exactEnclosesSpec.plain.varTypes Tryz.checked.prog++Tryz.f14.resultTypes.toList)=true:=by kernel_rfl
theorem kEncloses_closed:joinedFacts Tryz.checked.prog 14 Tryz.f14 Rows.exactEnclosesSpec Rows.exactEnclosesRow=true:=by
 unfold joinedFacts
 exact YV (YV (YV (YV (YV (YV (YV (YV (YV (YV (YV (YV (YV (YV (YV (YV (YV (YV (YV (YV (YV (YV (YV (YV (YV (YV (YV (YV (YV (YV (YV kEncloses_0 vD) k7) kEncloses_1) kEncloses_2) kEncloses_3) kEncloses_4) kEncloses_5) kEncloses_6) kEncloses_7) kEncloses_8) kEncloses_9) kEncloses_10) kEncloses_11) kEncloses_12) kEncloses_13) kEncloses_14) kEncloses_15) kEncloses_16) kEncloses_17) kEncloses_18) kEncloses_19) vF) kEncloses_20) xt) xu) vC) vA) (by kernel_rfl)) kEncloses_21) kEncloses_22) kEncloses_23
theorem kEncloses_pre {H:Type} (enc:TypeId×Value→H) (os:Os):Rows.exactEnclosesSpec.preB enc Tryz.checked.prog Tryz.f14 [] false ((World.doorLaid Tryz.prog 4000 os).forCall (fun _ _=>0) ⟨#[],#[.slice none 0 0,.agg #[.string ⟨#[]⟩,.string ⟨#[]⟩,.string ⟨#[]⟩,.string ⟨#[]⟩,.string ⟨#[]⟩,.string ⟨#[]⟩],.agg #[.int .u8 0,.int .u8 0,.int .u8 0,.int .u8 0,.int .u8 0,.int .u8 0]],[]⟩).memory #[.slice none 0 0,.agg #[.string ⟨#[]⟩,.string ⟨#[]⟩,.string ⟨#[]⟩,.string ⟨#[]⟩,.string ⟨#[]⟩,.string ⟨#[]⟩],.agg #[.int .u8 0,.int .u8 0,.int .u8 0,.int .u8 0,.int .u8 0,.int .u8 0]] 8=true:=by kernel_rfl
theorem kEncloses_sized {H:Type} (enc:TypeId×Value→H) (os:Os):Rows.exactEnclosesSpec.sizedB enc Tryz.checked.prog Tryz.f14 false ((World.doorLaid Tryz.prog 4000 os).forCall (fun _ _=>0) ⟨#[],#[.slice none 0 0,.agg #[.string ⟨#[]⟩,.string ⟨#[]⟩,.string ⟨#[]⟩,.string ⟨#[]⟩,.string ⟨#[]⟩,.string ⟨#[]⟩],.agg #[.int .u8 0,.int .u8 0,.int .u8 0,.int .u8 0,.int .u8 0,.int .u8 0]],[]⟩).memory #[.slice none 0 0,.agg #[.string ⟨#[]⟩,.string ⟨#[]⟩,.string ⟨#[]⟩,.string ⟨#[]⟩,.string ⟨#[]⟩,.string ⟨#[]⟩],.agg #[.int .u8 0,.int .u8 0,.int .u8 0,.int .u8 0,.int .u8 0,.int .u8 0]] 8=true:=by kernel_rfl
theorem kEncloses_okw (os:Os):Input.okWideB Tryz.checked.prog ((World.doorLaid Tryz.prog 4000 os).forCall (fun _ _=>0) ⟨#[],#[.slice none 0 0,.agg #[.string ⟨#[]⟩,.string ⟨#[]⟩,.string ⟨#[]⟩,.string ⟨#[]⟩,.string ⟨#[]⟩,.string ⟨#[]⟩],.agg #[.int .u8 0,.int .u8 0,.int .u8 0,.int .u8 0,.int .u8 0,.int .u8 0]],[]⟩) 14 ⟨#[],#[.slice none 0 0,.agg #[.string ⟨#[]⟩,.string ⟨#[]⟩,.string ⟨#[]⟩,.string ⟨#[]⟩,.string ⟨#[]⟩,.string ⟨#[]⟩],.agg #[.int .u8 0,.int .u8 0,.int .u8 0,.int .u8 0,.int .u8 0,.int .u8 0]],[]⟩=true:=by kernel_rfl
theorem kEncloses_shaped (os:Os):((World.doorLaid Tryz.prog 4000 os).forCall (fun _ _=>0) ⟨#[],#[.slice none 0 0,.agg #[.string ⟨#[]⟩,.string ⟨#[]⟩,.string ⟨#[]⟩,.string ⟨#[]⟩,.string ⟨#[]⟩,.string ⟨#[]⟩],.agg #[.int .u8 0,.int .u8 0,.int .u8 0,.int .u8 0,.int .u8 0,.int .u8 0]],[]⟩).Shaped Tryz.checked.prog:=World.shaped_of_RefB (by kernel_rfl) (by kernel_rfl)
theorem kEncloses_idx:Tryz.prog.inits.idxOf? 14=none:=by kernel_rfl
theorem kEncloses_read:(Tryz.f14.params.toList.all fun t=>Tryz.prog.readableRec t&&decide (t<Tryz.prog.types.size))=true:=by kernel_rfl
set_option maxRecDepth 100000 in
theorem kEncloses_lifted (os:Os) (started:os.Started) (H:Type) (enc:TypeId×Value→H) :
  ReturnsInHanded {} Tryz.checked os 14 .any (fun w args=>(Rows.exactEnclosesSpec.pre enc Tryz.prog Tryz.f14 [] false w args∧laidMetH Tryz.prog P9 w)∧sizedMet enc Tryz.prog Tryz.f14 (OpenSpec.ofChange Rows.exactEnclosesSpec) false w args)
   (Rows.exactEnclosesSpec.post enc Tryz.prog Tryz.f14 false true false false):=by
 refine CJ os started enc Tryz.func14 kEncloses_idx rfl (fun ds h=>?_) rfl kEncloses_read
  (ChangeSpec.witness_shaped (enc:=enc) (C:=Tryz.checked) (os:=os) (X:=fun w _=>laidMetH Tryz.prog P9 w) false (World.doorLaid Tryz.prog 4000 os) #[.slice none 0 0,.agg #[.string ⟨#[]⟩,.string ⟨#[]⟩,.string ⟨#[]⟩,.string ⟨#[]⟩,.string ⟨#[]⟩,.string ⟨#[]⟩],.agg #[.int .u8 0,.int .u8 0,.int .u8 0,.int .u8 0,.int .u8 0,.int .u8 0]] 8 rfl (kEncloses_shaped os) (kEncloses_okw os) (kEncloses_pre enc os) (kEncloses_sized enc os) (zU os _)) ?_
 ·match ds,h with
  |[d1,d2,d3],_=>rfl
 ·intro W base args ds ps hval hA hF hG
  have hval:∀ (j:Nat) t v,(#[52,113,114]:Array TypeId)[j]?=some t→args[j]?=some v→Value.okWide Tryz.prog W .any base t v:=hval
  have hA:DataW.TrodAll enc Tryz.prog W 0 (fun _=>true) true [52,113,114] args.toList ds ps:=hA
  obtain ⟨v0,v1,v2,d0,d1,d2,p0,p1,p2,rfl,rfl,rfl,h0,h1,h2⟩:=trodAll_three hA
  obtain ⟨a,rfl,ha,hl,hn⟩:=open_poly (hval 0 _ _ rfl rfl) h0
  obtain ⟨l0,b0,l1,b1,l2,b2,rfl⟩:=open_s3 (hval 1 _ _ rfl rfl) h1
  obtain ⟨k0,k1,k2,k3,k4,k5,rfl,hk⟩:=open_u6 (hval 2 _ _ rfl rfl) h2
  exact encloses_g hF hG ha hl hn hk
theorem kEncloses_named:Tryz.prog.funcNamed "integraph/integraphlaw01.ExactEncloses" = some 14:=by kernel_rfl
theorem kEncloses_inst:Tryz.f14.isInstance Tryz.checked.prog Rows.exactEnclosesRow.origin Rows.exactEnclosesRow.targs:=wI (by kernel_rfl)
theorem kEncloses_wrap:Tryz.f14.isWrapper Tryz.checked.prog Rows.exactEnclosesRow.wrapper Rows.exactEnclosesRow.mainSum:=by unfold Func.isWrapper;first | (rw [if_pos (by decide +kernel)];kernel_rfl) | (rw [if_neg (by decide +kernel)];exact⟨rfl,rfl⟩)
theorem exactEncloses_holds:Rows.ExactEnclosesSaid :=
 OpenClaim.holds_of_wide 14 Tryz.f14 rfl rfl rfl rfl rfl rfl rfl ⟨rfl,rfl,rfl,rfl,rfl⟩ rfl rfl rfl rfl rfl kEncloses_named Tryz.func14 kEncloses_closed kEncloses_inst kEncloses_wrap
  (fun os started H enc _=>kEncloses_lifted os started H enc)
theorem kEncloses_bytext:Rows.exactEnclosesRow.wfByText (OpenSpec.ofChange Rows.exactEnclosesSpec)=true:=by kernel_rfl
theorem kEncloses_wants:(Tryz.f14.params.toList.all fun u=>!Tryz.prog.wantsStandIn u)=true:=by kernel_rfl
theorem kEncloses_goes:false=Rows.exactEnclosesRow.goesBy Tryz.checked.prog:=by kernel_rfl
theorem exactEncloses_card_holds:Rows.ExactEnclosesCardSaid :=
 Claim7.holds_tied_plain_at .later [] [.data,.data,.data,.sentinel,.sentinel] true (true, "0bd04a9777c06c4babd2615d738c4370e7ee42132e89b6db1518d6fd8816c7a6") true
  exactEncloses_holds (fun _ h=>by cases h) kEncloses_bytext (fun _ h=>by cases h) exactEncloses_row_tie rfl ⟨rfl,rfl⟩ vB rfl
  (fun f fn hf hfn=>by
   obtain rfl:f=14:=Option.some.inj (kEncloses_named.symm.trans hf) |>.symm
   obtain rfl:fn=Tryz.f14:=(Option.some.inj (Tryz.func14.symm.trans hfn)).symm
   exact⟨xr,fun j t ht=>by
    have hm:t∈Tryz.f14.params.toList:=by simpa using Array.mem_of_getElem? ht
    exact(show Tryz.prog.wantsStandIn t=false by simpa using List.all_eq_true.1 kEncloses_wants t hm)⟩)
  kEncloses_goes
#print axioms exactEncloses_card_holds
end
end Go.Proofs.YtknegjaeoffnbaaGreatDoor
