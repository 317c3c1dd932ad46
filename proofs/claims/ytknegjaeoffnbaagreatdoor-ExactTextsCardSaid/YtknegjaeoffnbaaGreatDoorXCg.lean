/- The law ExactTexts answers true whatever its input, and leaves its input as it was; condition: the listed variables of the library hold what the program lays into them. -/
import Derived.Test.YtknegjaeoffnbaaGreatDoorE0XCg
import Derived.Test.YtknegjaeoffnbaaGreatDoorTie
set_option linter.all false
set_option maxHeartbeats 4000000
namespace Go.Proofs.YtknegjaeoffnbaaGreatDoor
section
open Go.RowKit Go.ChangeShapes Go.WideShapes Ig
theorem Xhk:Rows.exactTextsRow.wf (OpenSpec.ofChange Rows.exactTextsSpec)=true:=by kernel_rfl
theorem Xhj:Tryz.f9.params.all (Tryz.checked.prog.readableRec ·)=true:=by kernel_rfl
theorem Xhi:namedTie Tryz.checked.prog Rows.exactTextsRow.named Rows.exactTextsSpec.vars=true:=by kernel_rfl
theorem Xhh:(Rows.exactTextsRow.stops==[])=true:=by kernel_rfl
theorem Xhg:(Tryz.checked.prog.stops==[])=true:=by kernel_rfl
theorem Xhf:(Rows.exactTextsRow.knobs==[])=true:=by kernel_rfl
theorem Xhe:(Tryz.checked.prog.stopKnobs==[])=true:=by kernel_rfl
theorem Xhd:(Rows.exactTextsRow.inPlace==Tryz.checked.prog.inPlace 9)=true:=by kernel_rfl
theorem Xhc:(Rows.exactTextsRow.unfollowed==Tryz.checked.prog.unfollowed 9)=true:=by kernel_rfl
theorem Xhb:(Rows.exactTextsRow.recurses==Tryz.checked.prog.recurses 9)=true:=by kernel_rfl
theorem Xgz:(Rows.exactTextsRow.named==Tryz.checked.prog.varsNamed 9)=true:=by kernel_rfl
theorem Xgy:(Rows.exactTextsRow.maps==(Tryz.f9.params.toList++Rows.exactTextsSpec.plain.varTypes Tryz.checked.prog).any (Tryz.checked.prog.mapsRec ·))=true:=by kernel_rfl
theorem Xgx:(Rows.exactTextsRow.ifaces==(Tryz.f9.params.toList++Rows.exactTextsSpec.plain.varTypes Tryz.checked.prog).any (Tryz.checked.prog.ifacesRec ·))=true:=by kernel_rfl
theorem Xgw:(Rows.exactTextsRow.mapsOut==Tryz.checked.prog.mapsAmong Tryz.f9.resultTypes.toList)=true:=by kernel_rfl
theorem Xgv:(Rows.exactTextsRow.loops==(Tryz.f9.params.toList++Rows.exactTextsSpec.plain.varTypes Tryz.checked.prog).any (Tryz.checked.prog.loopsFrom ·))=true:=by kernel_rfl
theorem Xgu:(Rows.exactTextsRow.wideKeys==(Tryz.f9.params.toList++Rows.exactTextsSpec.plain.varTypes Tryz.checked.prog++Tryz.f9.resultTypes.toList).any (Tryz.checked.prog.wideKeysFrom ·))=true:=by kernel_rfl
theorem Xgt:Rows.exactTextsSpec.vars.all (Tryz.checked.prog.varReadable ·)=true:=by kernel_rfl
theorem Xgs:(Tryz.f9.resultTypes.all (fun t=>Tryz.checked.prog.readableRec t&&decide (t<Tryz.checked.prog.types.size)))=true:=by kernel_rfl
theorem Xgr:(Rows.exactTextsRow.ifacesOut==Tryz.f9.resultTypes.toList.any (Tryz.checked.prog.ifacesRec ·))=true:=by kernel_rfl
theorem Xgq:(Rows.exactTextsRow.loopsOut==Tryz.f9.resultTypes.toList.any (Tryz.checked.prog.loopsFrom ·))=true:=by kernel_rfl
theorem Xgp:Rows.exactTextsRow.shortTexts.isNone=true:=by kernel_rfl
theorem Xgo:(Rows.exactTextsRow.pinned==Rows.exactTextsRow.pinnedBy)=true:=by kernel_rfl
theorem Xgn:(Rows.exactTextsRow.veiled==(Tryz.f9.params.toList++Rows.exactTextsSpec.plain.varTypes Tryz.checked.prog++Tryz.f9.resultTypes.toList).any (Tryz.checked.prog.veiledRec ·))=true:=by kernel_rfl
theorem Xgm:Rows.exactTextsRow.veiledFits Tryz.checked.prog Tryz.f9.params.toList (Tryz.f9.params.toList++Rows.exactTextsSpec.plain.varTypes Tryz.checked.prog++Tryz.f9.resultTypes.toList)=true:=by kernel_rfl
theorem Xfa:joinedFacts Tryz.checked.prog 9 Tryz.f9 Rows.exactTextsSpec Rows.exactTextsRow=true:=by
 unfold joinedFacts
 exact YC (YC (YC (YC (YC (YC (YC (YC (YC (YC (YC (YC (YC (YC (YC (YC (YC (YC (YC (YC (YC (YC (YC (YC (YC (YC (YC (YC (YC (YC (YC Xhk zc) zW) Xhj) Xhi) Xhh) Xhg) Xhf) Xhe) Xhd) Xhc) Xhb) Xgz) Xgy) Xgx) Xgw) Xgv) Xgu) Xgt) Xgs) Xgr) Xgq) ze) Xgp) jU) jV) zZ) zX) (by kernel_rfl)) Xgo) Xgn) Xgm
theorem Xfz {H:Type} (enc:TypeId×Value→H) (os:Os):Rows.exactTextsSpec.preB enc Tryz.checked.prog Tryz.f9 [] false ((World.doorLaid Tryz.prog 4000 os).forCall (fun _ _=>0) ⟨#[],#[.string ⟨#[]⟩,.int .i64 0,.int .i64 0],[]⟩).memory #[.string ⟨#[]⟩,.int .i64 0,.int .i64 0] 8=true:=by kernel_rfl
theorem Xfg {H:Type} (enc:TypeId×Value→H) (os:Os):Rows.exactTextsSpec.sizedB enc Tryz.checked.prog Tryz.f9 false ((World.doorLaid Tryz.prog 4000 os).forCall (fun _ _=>0) ⟨#[],#[.string ⟨#[]⟩,.int .i64 0,.int .i64 0],[]⟩).memory #[.string ⟨#[]⟩,.int .i64 0,.int .i64 0] 8=true:=by kernel_rfl
theorem Xg0 (os:Os):Input.okWideB Tryz.checked.prog ((World.doorLaid Tryz.prog 4000 os).forCall (fun _ _=>0) ⟨#[],#[.string ⟨#[]⟩,.int .i64 0,.int .i64 0],[]⟩) 9 ⟨#[],#[.string ⟨#[]⟩,.int .i64 0,.int .i64 0],[]⟩=true:=by kernel_rfl
theorem Xf8 (os:Os):((World.doorLaid Tryz.prog 4000 os).forCall (fun _ _=>0) ⟨#[],#[.string ⟨#[]⟩,.int .i64 0,.int .i64 0],[]⟩).Shaped Tryz.checked.prog:=World.shaped_of_RefB (by kernel_rfl) (by kernel_rfl)
theorem Xg1:Tryz.prog.inits.idxOf? 9=none:=by kernel_rfl
theorem Xfr:(Tryz.f9.params.toList.all fun t=>Tryz.prog.readableRec t&&decide (t<Tryz.prog.types.size))=true:=by kernel_rfl
set_option maxRecDepth 100000 in
theorem Xf9 (os:Os) (started:os.Started) (H:Type) (enc:TypeId×Value→H) :
  ReturnsInHanded {} Tryz.checked os 9 .any (fun w args=>(Rows.exactTextsSpec.pre enc Tryz.prog Tryz.f9 [] false w args∧laidMetH Tryz.prog Pc w)∧sizedMet enc Tryz.prog Tryz.f9 (OpenSpec.ofChange Rows.exactTextsSpec) false w args)
   (Rows.exactTextsSpec.post enc Tryz.prog Tryz.f9 false true false false):=by
 refine OL os started enc Tryz.func9 Xg1 rfl (fun ds h=>?_) rfl Xfr
  (ChangeSpec.witness_shaped (enc:=enc) (C:=Tryz.checked) (os:=os) (X:=fun w _=>laidMetH Tryz.prog Pc w) false (World.doorLaid Tryz.prog 4000 os) #[.string ⟨#[]⟩,.int .i64 0,.int .i64 0] 8 rfl (Xf8 os) (Xg0 os) (Xfz enc os) (Xfg enc os) (jr os _)) ?_
 ·match ds,h with
  |[d1,d2,d3],_=>rfl
 ·intro W base args ds ps hval hA hF hG
  have hval:∀ (j:Nat) t v,(#[9,3,3]:Array TypeId)[j]?=some t→args[j]?=some v→Value.okWide Tryz.prog W .any base t v:=hval
  have hA:DataW.TrodAll enc Tryz.prog W 0 (fun _=>true) true [9,3,3] args.toList ds ps:=hA
  obtain ⟨v0,v1,v2,d0,d1,d2,p0,p1,p2,rfl,rfl,rfl,h0,h1,h2⟩:=trodAll_three hA
  obtain ⟨s,rfl⟩:=Xh8 Tryz.underlying9 (hval 0 _ _ rfl rfl) h0
  obtain ⟨num,rfl,hn⟩:=Xfk gO (hval 1 _ _ rfl rfl) h1
  obtain ⟨den,rfl,hd⟩:=Xfk gO (hval 2 _ _ rfl rfl) h2
  exact Xhn hF hG hn hd
theorem Xf2:Tryz.prog.funcNamed "integraph/integraphlaw01.ExactTexts" = some 9:=by kernel_rfl
theorem Xfs:Tryz.f9.isInstance Tryz.checked.prog Rows.exactTextsRow.origin Rows.exactTextsRow.targs:=dec_t (by kernel_rfl)
theorem Xfq:Tryz.f9.isWrapper Tryz.checked.prog Rows.exactTextsRow.wrapper Rows.exactTextsRow.mainSum:=by unfold Func.isWrapper;first | (rw [if_pos (by decide +kernel)];kernel_rfl) | (rw [if_neg (by decide +kernel)];exact⟨rfl,rfl⟩)
theorem exactTexts_holds:Rows.ExactTextsSaid :=
 OpenClaim.holds_of_wide 9 Tryz.f9 rfl rfl rfl rfl rfl rfl rfl ⟨rfl,rfl,rfl,rfl,rfl⟩ rfl rfl rfl rfl rfl Xf2 Tryz.func9 Xfa Xfs Xfq
  (fun os started H enc _=>Xf9 os started H enc)
theorem Xfb:Rows.exactTextsRow.wfByText (OpenSpec.ofChange Rows.exactTextsSpec)=true:=by kernel_rfl
theorem Xff:(Tryz.f9.params.toList.all fun u=>!Tryz.prog.wantsStandIn u)=true:=by kernel_rfl
theorem Xft:false=Rows.exactTextsRow.goesBy Tryz.checked.prog:=by kernel_rfl
theorem exactTexts_card_holds:Rows.ExactTextsCardSaid :=
 Claim7.holds_tied_plain_at .later [] [.data,.data,.data,.sentinel,.sentinel] true (true, "0bd04a9777c06c4babd2615d738c4370e7ee42132e89b6db1518d6fd8816c7a6") true
  exactTexts_holds (fun _ h=>by cases h) Xfb (fun _ h=>by cases h) exactTexts_row_tie rfl ⟨rfl,rfl⟩ zY rfl
  (fun f fn hf hfn=>by
   obtain rfl:f=9:=Option.some.inj (Xf2.symm.trans hf) |>.symm
   obtain rfl:fn=Tryz.f9:=(Option.some.inj (Tryz.func9.symm.trans hfn)).symm
   exact⟨jT,fun j t ht=>by
    have hm:t∈Tryz.f9.params.toList:=by simpa using Array.mem_of_getElem? ht
    exact(show Tryz.prog.wantsStandIn t=false by simpa using List.all_eq_true.1 Xff t hm)⟩)
  Xft
#print axioms exactTexts_card_holds
end
end Go.Proofs.YtknegjaeoffnbaaGreatDoor
