/- The law ExactValues answers true whatever its input, and leaves its input as it was; condition: the listed variables of the library hold what the program lays into them. -/
import Derived.Test.YtknegjaeoffnbaaGreatDoorE0XCe
import Derived.Test.YtknegjaeoffnbaaGreatDoorTie
set_option linter.all false
set_option maxHeartbeats 4000000
namespace Go.Proofs.YtknegjaeoffnbaaGreatDoor
section
open Go.RowKit Go.ChangeShapes Go.WideShapes Ig
theorem kValues_0:Rows.exactValuesRow.wf (OpenSpec.ofChange Rows.exactValuesSpec)=true:=by kernel_rfl
theorem kValues_1:Tryz.f11.params.all (Tryz.checked.prog.readableRec ·)=true:=by kernel_rfl
theorem kValues_2:namedTie Tryz.checked.prog Rows.exactValuesRow.named Rows.exactValuesSpec.vars=true:=by kernel_rfl
theorem kValues_3:(Rows.exactValuesRow.stops==[])=true:=by kernel_rfl
theorem kValues_4:(Tryz.checked.prog.stops==[])=true:=by kernel_rfl
theorem kValues_5:(Rows.exactValuesRow.knobs==[])=true:=by kernel_rfl
theorem kValues_6:(Tryz.checked.prog.stopKnobs==[])=true:=by kernel_rfl
theorem kValues_7:(Rows.exactValuesRow.inPlace==Tryz.checked.prog.inPlace 11)=true:=by kernel_rfl
theorem kValues_8:(Rows.exactValuesRow.unfollowed==Tryz.checked.prog.unfollowed 11)=true:=by kernel_rfl
theorem kValues_9:(Rows.exactValuesRow.recurses==Tryz.checked.prog.recurses 11)=true:=by kernel_rfl
theorem kValues_10:(Rows.exactValuesRow.named==Tryz.checked.prog.varsNamed 11)=true:=by kernel_rfl
theorem kValues_11:(Rows.exactValuesRow.maps==(Tryz.f11.params.toList++Rows.exactValuesSpec.plain.varTypes Tryz.checked.prog).any (Tryz.checked.prog.mapsRec ·))=true:=by kernel_rfl
theorem kValues_12:(Rows.exactValuesRow.ifaces==(Tryz.f11.params.toList++Rows.exactValuesSpec.plain.varTypes Tryz.checked.prog).any (Tryz.checked.prog.ifacesRec ·))=true:=by kernel_rfl
theorem kValues_13:(Rows.exactValuesRow.mapsOut==Tryz.checked.prog.mapsAmong Tryz.f11.resultTypes.toList)=true:=by kernel_rfl
theorem kValues_14:(Rows.exactValuesRow.loops==(Tryz.f11.params.toList++Rows.exactValuesSpec.plain.varTypes Tryz.checked.prog).any (Tryz.checked.prog.loopsFrom ·))=true:=by kernel_rfl
theorem kValues_15:(Rows.exactValuesRow.wideKeys==(Tryz.f11.params.toList++Rows.exactValuesSpec.plain.varTypes Tryz.checked.prog++Tryz.f11.resultTypes.toList).any (Tryz.checked.prog.wideKeysFrom ·))=true:=by kernel_rfl
theorem kValues_16:Rows.exactValuesSpec.vars.all (Tryz.checked.prog.varReadable ·)=true:=by kernel_rfl
theorem kValues_17:(Tryz.f11.resultTypes.all (fun t=>Tryz.checked.prog.readableRec t&&decide (t<Tryz.checked.prog.types.size)))=true:=by kernel_rfl
theorem kValues_18:(Rows.exactValuesRow.ifacesOut==Tryz.f11.resultTypes.toList.any (Tryz.checked.prog.ifacesRec ·))=true:=by kernel_rfl
theorem kValues_19:(Rows.exactValuesRow.loopsOut==Tryz.f11.resultTypes.toList.any (Tryz.checked.prog.loopsFrom ·))=true:=by kernel_rfl
theorem kValues_20:Rows.exactValuesRow.shortTexts.isNone=true:=by kernel_rfl
theorem kValues_21:(Rows.exactValuesRow.pinned==Rows.exactValuesRow.pinnedBy)=true:=by kernel_rfl
theorem kValues_22:(Rows.exactValuesRow.veiled==(Tryz.f11.params.toList++Rows.exactValuesSpec.plain.varTypes Tryz.checked.prog++Tryz.f11.resultTypes.toList).any (Tryz.checked.prog.veiledRec ·))=true:=by kernel_rfl
theorem kValues_23:Rows.exactValuesRow.veiledFits Tryz.checked.prog Tryz.f11.params.toList (Tryz.f11.params.toList++Rows.exactValuesSpec.plain.varTypes Tryz.checked.prog++Tryz.f11.resultTypes.toList)=true:=by kernel_rfl
theorem kValues_closed:joinedFacts Tryz.checked.prog 11 Tryz.f11 Rows.exactValuesSpec Rows.exactValuesRow=true:=by
 unfold joinedFacts
 exact YK (YK (YK (YK (YK (YK (YK (YK (YK (YK (YK (YK (YK (YK (YK (YK (YK (YK (YK (YK (YK (YK (YK (YK (YK (YK (YK (YK (YK (YK (YK kValues_0 yt) yk) kValues_1) kValues_2) kValues_3) kValues_4) kValues_5) kValues_6) kValues_7) kValues_8) kValues_9) kValues_10) kValues_11) kValues_12) kValues_13) kValues_14) kValues_15) kValues_16) kValues_17) kValues_18) kValues_19) yu) kValues_20) xA) xB) yr) yo) (by kernel_rfl)) kValues_21) kValues_22) kValues_23
theorem kValues_pre {H:Type} (enc:TypeId×Value→H) (os:Os):Rows.exactValuesSpec.preB enc Tryz.checked.prog Tryz.f11 [] false ((World.doorLaid Tryz.prog 4000 os).forCall (fun _ _=>0) ⟨#[],#[.slice none 0 0,.slice none 0 0,.slice none 0 0],[]⟩).memory #[.slice none 0 0,.slice none 0 0,.slice none 0 0] 8=true:=by kernel_rfl
theorem kValues_sized {H:Type} (enc:TypeId×Value→H) (os:Os):Rows.exactValuesSpec.sizedB enc Tryz.checked.prog Tryz.f11 false ((World.doorLaid Tryz.prog 4000 os).forCall (fun _ _=>0) ⟨#[],#[.slice none 0 0,.slice none 0 0,.slice none 0 0],[]⟩).memory #[.slice none 0 0,.slice none 0 0,.slice none 0 0] 8=true:=by kernel_rfl
theorem kValues_okw (os:Os):Input.okWideB Tryz.checked.prog ((World.doorLaid Tryz.prog 4000 os).forCall (fun _ _=>0) ⟨#[],#[.slice none 0 0,.slice none 0 0,.slice none 0 0],[]⟩) 11 ⟨#[],#[.slice none 0 0,.slice none 0 0,.slice none 0 0],[]⟩=true:=by kernel_rfl
theorem kValues_shaped (os:Os):((World.doorLaid Tryz.prog 4000 os).forCall (fun _ _=>0) ⟨#[],#[.slice none 0 0,.slice none 0 0,.slice none 0 0],[]⟩).Shaped Tryz.checked.prog:=World.shaped_of_RefB (by kernel_rfl) (by kernel_rfl)
theorem kValues_idx:Tryz.prog.inits.idxOf? 11=none:=by kernel_rfl
theorem kValues_read:(Tryz.f11.params.toList.all fun t=>Tryz.prog.readableRec t&&decide (t<Tryz.prog.types.size))=true:=by kernel_rfl
set_option maxRecDepth 100000 in
theorem kValues_lifted (os:Os) (started:os.Started) (H:Type) (enc:TypeId×Value→H) :
  ReturnsInHanded {} Tryz.checked os 11 .any (fun w args=>(Rows.exactValuesSpec.pre enc Tryz.prog Tryz.f11 [] false w args∧laidMetH Tryz.prog Pu w)∧sizedMet enc Tryz.prog Tryz.f11 (OpenSpec.ofChange Rows.exactValuesSpec) false w args)
   (Rows.exactValuesSpec.post enc Tryz.prog Tryz.f11 false true false false):=by
 refine Ol os started enc Tryz.func11 kValues_idx rfl (fun ds h=>?_) rfl kValues_read
  (ChangeSpec.witness_shaped (enc:=enc) (C:=Tryz.checked) (os:=os) (X:=fun w _=>laidMetH Tryz.prog Pu w) false (World.doorLaid Tryz.prog 4000 os) #[.slice none 0 0,.slice none 0 0,.slice none 0 0] 8 rfl (kValues_shaped os) (kValues_okw os) (kValues_pre enc os) (kValues_sized enc os) (xW os _)) ?_
 ·match ds,h with
  |[d1,d2,d3],_=>rfl
 ·intro W base args ds ps hval hA hF hG
  have hval:∀ (j:Nat) t v,(#[52,44,42]:Array TypeId)[j]?=some t→args[j]?=some v→Value.okWide Tryz.prog W .any base t v:=hval
  have hA:DataW.TrodAll enc Tryz.prog W 0 (fun _=>true) true [52,44,42] args.toList ds ps:=hA
  obtain ⟨v0,v1,v2,d0,d1,d2,p0,p1,p2,rfl,rfl,rfl,h0,h1,h2⟩:=trodAll_three hA
  obtain ⟨q,n,cap,ps,rfl,hR,hP,hn,hb⟩:=Xf7 Tryz.underlying52 (hval 0 _ _ rfl rfl) h0
  obtain ⟨qx,nx,cx,xs,rfl,hX,hxn,hxb⟩:=Xfk (hval 1 _ _ rfl rfl) h1
  obtain ⟨qs,ns,cs,ss,rfl,hS,hsn,hsb⟩:=Xf8 (hval 2 _ _ rfl rfl) h2
  rw [Xfz] at hX
  exact values_g hF hG hR hP hn hb hX hxn hxb hS hsn hsb
theorem kValues_named:Tryz.prog.funcNamed "integraph/integraphlaw01.ExactValues" = some 11:=by kernel_rfl
theorem kValues_inst:Tryz.f11.isInstance Tryz.checked.prog Rows.exactValuesRow.origin Rows.exactValuesRow.targs:=dec_t (by kernel_rfl)
theorem kValues_wrap:Tryz.f11.isWrapper Tryz.checked.prog Rows.exactValuesRow.wrapper Rows.exactValuesRow.mainSum:=by unfold Func.isWrapper;first | (rw [if_pos (by decide +kernel)];kernel_rfl) | (rw [if_neg (by decide +kernel)];exact⟨rfl,rfl⟩)
theorem exactValues_holds:Rows.ExactValuesSaid :=
 OpenClaim.holds_of_wide 11 Tryz.f11 rfl rfl rfl rfl rfl rfl rfl ⟨rfl,rfl,rfl,rfl,rfl⟩ rfl rfl rfl rfl rfl kValues_named Tryz.func11 kValues_closed kValues_inst kValues_wrap
  (fun os started H enc _=>kValues_lifted os started H enc)
theorem kValues_bytext:Rows.exactValuesRow.wfByText (OpenSpec.ofChange Rows.exactValuesSpec)=true:=by kernel_rfl
theorem kValues_wants:(Tryz.f11.params.toList.all fun u=>!Tryz.prog.wantsStandIn u)=true:=by kernel_rfl
theorem kValues_goes:false=Rows.exactValuesRow.goesBy Tryz.checked.prog:=by kernel_rfl
theorem exactValues_card_holds:Rows.ExactValuesCardSaid :=
 Claim7.holds_tied_plain_at .later [] [.data,.data,.data,.sentinel,.sentinel] true (true, "0bd04a9777c06c4babd2615d738c4370e7ee42132e89b6db1518d6fd8816c7a6") true
  exactValues_holds (fun _ h=>by cases h) kValues_bytext (fun _ h=>by cases h) exactValues_row_tie rfl ⟨rfl,rfl⟩ yp rfl
  (fun f fn hf hfn=>by
   obtain rfl:f=11:=Option.some.inj (kValues_named.symm.trans hf) |>.symm
   obtain rfl:fn=Tryz.f11:=(Option.some.inj (Tryz.func11.symm.trans hfn)).symm
   exact⟨j9,fun j t ht=>by
    have hm:t∈Tryz.f11.params.toList:=by simpa using Array.mem_of_getElem? ht
    exact(show Tryz.prog.wantsStandIn t=false by simpa using List.all_eq_true.1 kValues_wants t hm)⟩)
  kValues_goes
#print axioms exactValues_card_holds
end
end Go.Proofs.YtknegjaeoffnbaaGreatDoor
