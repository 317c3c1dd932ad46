/- The law ExactHulls answers true whatever its input, and leaves its input as it was; condition: the listed variables of the library hold what the program lays into them. -/
import Derived.Test.YtknegjaeoffnbaaGreatDoorE0XCd
import Derived.Test.YtknegjaeoffnbaaGreatDoorTie
set_option linter.all false
set_option maxHeartbeats 4000000
namespace Go.Proofs.YtknegjaeoffnbaaGreatDoor
section
open Go.RowKit Go.ChangeShapes Go.WideShapes Ig
theorem Xbp:Rows.exactHullsRow.wf (OpenSpec.ofChange Rows.exactHullsSpec)=true:=by kernel_rfl
theorem Xbo:Tryz.f7.params.all (Tryz.checked.prog.readableRec ·)=true:=by kernel_rfl
theorem Xbn:namedTie Tryz.checked.prog Rows.exactHullsRow.named Rows.exactHullsSpec.vars=true:=by kernel_rfl
theorem Xbm:(Rows.exactHullsRow.stops==[])=true:=by kernel_rfl
theorem Xbk:(Tryz.checked.prog.stops==[])=true:=by kernel_rfl
theorem Xbj:(Rows.exactHullsRow.knobs==[])=true:=by kernel_rfl
theorem Xbi:(Tryz.checked.prog.stopKnobs==[])=true:=by kernel_rfl
theorem Xbh:(Rows.exactHullsRow.inPlace==Tryz.checked.prog.inPlace 7)=true:=by kernel_rfl
theorem Xbg:(Rows.exactHullsRow.unfollowed==Tryz.checked.prog.unfollowed 7)=true:=by kernel_rfl
theorem Xbf:(Rows.exactHullsRow.recurses==Tryz.checked.prog.recurses 7)=true:=by kernel_rfl
theorem Xbc:(Rows.exactHullsRow.named==Tryz.checked.prog.varsNamed 7)=true:=by kernel_rfl
theorem Xbb:(Rows.exactHullsRow.maps==(Tryz.f7.params.toList++Rows.exactHullsSpec.plain.varTypes Tryz.checked.prog).any (Tryz.checked.prog.mapsRec ·))=true:=by kernel_rfl
theorem Xba:(Rows.exactHullsRow.ifaces==(Tryz.f7.params.toList++Rows.exactHullsSpec.plain.varTypes Tryz.checked.prog).any (Tryz.checked.prog.ifacesRec ·))=true:=by kernel_rfl
theorem Xb9:(Rows.exactHullsRow.mapsOut==Tryz.checked.prog.mapsAmong Tryz.f7.resultTypes.toList)=true:=by kernel_rfl
theorem Xb8:(Rows.exactHullsRow.loops==(Tryz.f7.params.toList++Rows.exactHullsSpec.plain.varTypes Tryz.checked.prog).any (Tryz.checked.prog.loopsFrom ·))=true:=by kernel_rfl
theorem Xb7:(Rows.exactHullsRow.wideKeys==(Tryz.f7.params.toList++Rows.exactHullsSpec.plain.varTypes Tryz.checked.prog++Tryz.f7.resultTypes.toList).any (Tryz.checked.prog.wideKeysFrom ·))=true:=by kernel_rfl
theorem Xb6:Rows.exactHullsSpec.vars.all (Tryz.checked.prog.varReadable ·)=true:=by kernel_rfl
theorem Xb5:(Tryz.f7.resultTypes.all (fun t=>Tryz.checked.prog.readableRec t&&decide (t<Tryz.checked.prog.types.size)))=true:=by kernel_rfl
theorem Xb4:(Rows.exactHullsRow.ifacesOut==Tryz.f7.resultTypes.toList.any (Tryz.checked.prog.ifacesRec ·))=true:=by kernel_rfl
theorem Xb3:(Rows.exactHullsRow.loopsOut==Tryz.f7.resultTypes.toList.any (Tryz.checked.prog.loopsFrom ·))=true:=by kernel_rfl
theorem Xb2:Rows.exactHullsRow.shortTexts.isNone=true:=by kernel_rfl
theorem Xb1:(Rows.exactHullsRow.pinned==Rows.exactHullsRow.pinnedBy)=true:=by kernel_rfl
theorem Xb0:(Rows.exactHullsRow.veiled==(Tryz.f7.params.toList++Rows.exactHullsSpec.plain.varTypes Tryz.checked.prog++Tryz.f7.resultTypes.toList).any (Tryz.checked.prog.veiledRec ·))=true:=by kernel_rfl
theorem Xaz:Rows.exactHullsRow.veiledFits Tryz.checked.prog Tryz.f7.params.toList (Tryz.f7.params.toList++Rows.exactHullsSpec.plain.varTypes Tryz.checked.prog++Tryz.f7.resultTypes.toList)=true:=by kernel_rfl
theorem Xa9:joinedFacts Tryz.checked.prog 7 Tryz.f7 Rows.exactHullsSpec Rows.exactHullsRow=true:=by
 unfold joinedFacts
 exact YC (YC (YC (YC (YC (YC (YC (YC (YC (YC (YC (YC (YC (YC (YC (YC (YC (YC (YC (YC (YC (YC (YC (YC (YC (YC (YC (YC (YC (YC (YC Xbp zc) zW) Xbo) Xbn) Xbm) Xbk) Xbj) Xbi) Xbh) Xbg) Xbf) Xbc) Xbb) Xba) Xb9) Xb8) Xb7) Xb6) Xb5) Xb4) Xb3) ze) Xb2) jU) jV) zZ) zX) (by kernel_rfl)) Xb1) Xb0) Xaz
theorem Xap {H:Type} (enc:TypeId×Value→H) (os:Os):Rows.exactHullsSpec.preB enc Tryz.checked.prog Tryz.f7 [] false ((World.doorLaid Tryz.prog 4000 os).forCall (fun _ _=>0) ⟨#[],#[.slice none 0 0],[]⟩).memory #[.slice none 0 0] 8=true:=by kernel_rfl
theorem Xae {H:Type} (enc:TypeId×Value→H) (os:Os):Rows.exactHullsSpec.sizedB enc Tryz.checked.prog Tryz.f7 false ((World.doorLaid Tryz.prog 4000 os).forCall (fun _ _=>0) ⟨#[],#[.slice none 0 0],[]⟩).memory #[.slice none 0 0] 8=true:=by kernel_rfl
theorem Xaq (os:Os):Input.okWideB Tryz.checked.prog ((World.doorLaid Tryz.prog 4000 os).forCall (fun _ _=>0) ⟨#[],#[.slice none 0 0],[]⟩) 7 ⟨#[],#[.slice none 0 0],[]⟩=true:=by kernel_rfl
theorem Xa7 (os:Os):((World.doorLaid Tryz.prog 4000 os).forCall (fun _ _=>0) ⟨#[],#[.slice none 0 0],[]⟩).Shaped Tryz.checked.prog:=World.shaped_of_RefB (by kernel_rfl) (by kernel_rfl)
theorem Xar:Tryz.prog.inits.idxOf? 7=none:=by kernel_rfl
theorem Xah:(Tryz.f7.params.toList.all fun t=>Tryz.prog.readableRec t&&decide (t<Tryz.prog.types.size))=true:=by kernel_rfl
set_option maxRecDepth 100000 in
theorem Xa8 (os:Os) (started:os.Started) (H:Type) (enc:TypeId×Value→H) :
  ReturnsInHanded {} Tryz.checked os 7 .any (fun w args=>(Rows.exactHullsSpec.pre enc Tryz.prog Tryz.f7 [] false w args∧laidMetH Tryz.prog Pc w)∧sizedMet enc Tryz.prog Tryz.f7 (OpenSpec.ofChange Rows.exactHullsSpec) false w args)
   (Rows.exactHullsSpec.post enc Tryz.prog Tryz.f7 false true false false):=by
 refine OL os started enc Tryz.func7 Xar rfl (fun ds h=>?_) rfl Xah
  (ChangeSpec.witness_shaped (enc:=enc) (C:=Tryz.checked) (os:=os) (X:=fun w _=>laidMetH Tryz.prog Pc w) false (World.doorLaid Tryz.prog 4000 os) #[.slice none 0 0] 8 rfl (Xa7 os) (Xaq os) (Xap enc os) (Xae enc os) (jr os _)) ?_
 ·match ds,h with
  |[d1],_=>rfl
 ·intro W base args ds ps hval hA hF hG
  have hval:∀ (j:Nat) t v,(#[42]:Array TypeId)[j]?=some t→args[j]?=some v→Value.okWide Tryz.prog W .any base t v:=hval
  have hA:DataW.TrodAll enc Tryz.prog W 0 (fun _=>true) true [42] args.toList ds ps:=hA
  obtain ⟨v0,d0,rfl,rfl,h0⟩:=trodAll_one hA
  obtain ⟨q,n,cap,ss,rfl,hR,hn,hb⟩:=Xao (hval 0 _ _ rfl rfl) h0
  exact Xbv hF hG hR hn hb
theorem Xa1:Tryz.prog.funcNamed "integraph/integraphlaw01.ExactHulls" = some 7:=by kernel_rfl
theorem Xai:Tryz.f7.isInstance Tryz.checked.prog Rows.exactHullsRow.origin Rows.exactHullsRow.targs:=dec_t (by kernel_rfl)
theorem Xag:Tryz.f7.isWrapper Tryz.checked.prog Rows.exactHullsRow.wrapper Rows.exactHullsRow.mainSum:=by unfold Func.isWrapper;first | (rw [if_pos (by decide +kernel)];kernel_rfl) | (rw [if_neg (by decide +kernel)];exact⟨rfl,rfl⟩)
theorem exactHulls_holds:Rows.ExactHullsSaid :=
 OpenClaim.holds_of_wide 7 Tryz.f7 rfl rfl rfl rfl rfl rfl rfl ⟨rfl,rfl,rfl,rfl,rfl⟩ rfl rfl rfl rfl rfl Xa1 Tryz.func7 Xa9 Xai Xag
  (fun os started H enc _=>Xa8 os started H enc)
theorem Xaa:Rows.exactHullsRow.wfByText (OpenSpec.ofChange Rows.exactHullsSpec)=true:=by kernel_rfl
theorem Xad:(Tryz.f7.params.toList.all fun u=>!Tryz.prog.wantsStandIn u)=true:=by kernel_rfl
theorem Xaj:false=Rows.exactHullsRow.goesBy Tryz.checked.prog:=by kernel_rfl
theorem exactHulls_card_holds:Rows.ExactHullsCardSaid :=
 Claim7.holds_tied_plain_at .later [] [.data,.data,.data,.sentinel,.sentinel] true (true, "0bd04a9777c06c4babd2615d738c4370e7ee42132e89b6db1518d6fd8816c7a6") true
  exactHulls_holds (fun _ h=>by cases h) Xaa (fun _ h=>by cases h) exactHulls_row_tie rfl ⟨rfl,rfl⟩ zY rfl
  (fun f fn hf hfn=>by
   obtain rfl:f=7:=Option.some.inj (Xa1.symm.trans hf) |>.symm
   obtain rfl:fn=Tryz.f7:=(Option.some.inj (Tryz.func7.symm.trans hfn)).symm
   exact⟨jT,fun j t ht=>by
    have hm:t∈Tryz.f7.params.toList:=by simpa using Array.mem_of_getElem? ht
    exact(show Tryz.prog.wantsStandIn t=false by simpa using List.all_eq_true.1 Xad t hm)⟩)
  Xaj
#print axioms exactHulls_card_holds
end
end Go.Proofs.YtknegjaeoffnbaaGreatDoor
