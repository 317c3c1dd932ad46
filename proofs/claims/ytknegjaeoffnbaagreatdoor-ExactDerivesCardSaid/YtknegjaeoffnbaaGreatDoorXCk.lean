/- The law ExactDerives answers true whatever its input, and leaves its input as it was; condition: the listed variables of the library hold what the program lays into them. -/
import Derived.Test.YtknegjaeoffnbaaGreatDoorE0XCk
import Derived.Test.YtknegjaeoffnbaaGreatDoorTie
set_option linter.all false
set_option maxHeartbeats 4000000
namespace Go.Proofs.YtknegjaeoffnbaaGreatDoor
section
open Go.RowKit Go.ChangeShapes Go.WideShapes Ig
theorem Xh6:Rows.exactDerivesRow.wf (OpenSpec.ofChange Rows.exactDerivesSpec)=true:=by kernel_rfl
theorem Xh5:Tryz.f5.params.all (Tryz.checked.prog.readableRec ·)=true:=by kernel_rfl
theorem Xh4:namedTie Tryz.checked.prog Rows.exactDerivesRow.named Rows.exactDerivesSpec.vars=true:=by kernel_rfl
theorem Xh3:(Rows.exactDerivesRow.stops==[])=true:=by kernel_rfl
theorem Xh2:(Tryz.checked.prog.stops==[])=true:=by kernel_rfl
theorem Xh1:(Rows.exactDerivesRow.knobs==[])=true:=by kernel_rfl
theorem Xh0:(Tryz.checked.prog.stopKnobs==[])=true:=by kernel_rfl
theorem Xgz:(Rows.exactDerivesRow.inPlace==Tryz.checked.prog.inPlace 5)=true:=by kernel_rfl
theorem Xgy:(Rows.exactDerivesRow.unfollowed==Tryz.checked.prog.unfollowed 5)=true:=by kernel_rfl
theorem Xgx:(Rows.exactDerivesRow.recurses==Tryz.checked.prog.recurses 5)=true:=by kernel_rfl
theorem Xgw:(Rows.exactDerivesRow.named==Tryz.checked.prog.varsNamed 5)=true:=by kernel_rfl
theorem Xgv:(Rows.exactDerivesRow.maps==(Tryz.f5.params.toList++Rows.exactDerivesSpec.plain.varTypes Tryz.checked.prog).any (Tryz.checked.prog.mapsRec ·))=true:=by kernel_rfl
theorem Xgu:(Rows.exactDerivesRow.ifaces==(Tryz.f5.params.toList++Rows.exactDerivesSpec.plain.varTypes Tryz.checked.prog).any (Tryz.checked.prog.ifacesRec ·))=true:=by kernel_rfl
theorem Xgt:(Rows.exactDerivesRow.mapsOut==Tryz.checked.prog.mapsAmong Tryz.f5.resultTypes.toList)=true:=by kernel_rfl
theorem Xgs:(Rows.exactDerivesRow.loops==(Tryz.f5.params.toList++Rows.exactDerivesSpec.plain.varTypes Tryz.checked.prog).any (Tryz.checked.prog.loopsFrom ·))=true:=by kernel_rfl
theorem Xgr:(Rows.exactDerivesRow.wideKeys==(Tryz.f5.params.toList++Rows.exactDerivesSpec.plain.varTypes Tryz.checked.prog++Tryz.f5.resultTypes.toList).any (Tryz.checked.prog.wideKeysFrom ·))=true:=by kernel_rfl
theorem Xgq:Rows.exactDerivesSpec.vars.all (Tryz.checked.prog.varReadable ·)=true:=by kernel_rfl
theorem Xgp:(Tryz.f5.resultTypes.all (fun t=>Tryz.checked.prog.readableRec t&&decide (t<Tryz.checked.prog.types.size)))=true:=by kernel_rfl
theorem Xgo:(Rows.exactDerivesRow.ifacesOut==Tryz.f5.resultTypes.toList.any (Tryz.checked.prog.ifacesRec ·))=true:=by kernel_rfl
theorem Xgn:(Rows.exactDerivesRow.loopsOut==Tryz.f5.resultTypes.toList.any (Tryz.checked.prog.loopsFrom ·))=true:=by kernel_rfl
theorem Xgm:Rows.exactDerivesRow.shortTexts.isNone=true:=by kernel_rfl
theorem Xgk:(Rows.exactDerivesRow.pinned==Rows.exactDerivesRow.pinnedBy)=true:=by kernel_rfl
theorem Xgj:(Rows.exactDerivesRow.veiled==(Tryz.f5.params.toList++Rows.exactDerivesSpec.plain.varTypes Tryz.checked.prog++Tryz.f5.resultTypes.toList).any (Tryz.checked.prog.veiledRec ·))=true:=by kernel_rfl
theorem Xgi:Rows.exactDerivesRow.veiledFits Tryz.checked.prog Tryz.f5.params.toList (Tryz.f5.params.toList++Rows.exactDerivesSpec.plain.varTypes Tryz.checked.prog++Tryz.f5.resultTypes.toList)=true:=by kernel_rfl
theorem Xg6:joinedFacts Tryz.checked.prog 5 Tryz.f5 Rows.exactDerivesSpec Rows.exactDerivesRow=true:=by
 unfold joinedFacts
 exact YK (YK (YK (YK (YK (YK (YK (YK (YK (YK (YK (YK (YK (YK (YK (YK (YK (YK (YK (YK (YK (YK (YK (YK (YK (YK (YK (YK (YK (YK (YK Xh6 yt) yk) Xh5) Xh4) Xh3) Xh2) Xh1) Xh0) Xgz) Xgy) Xgx) Xgw) Xgv) Xgu) Xgt) Xgs) Xgr) Xgq) Xgp) Xgo) Xgn) yu) Xgm) xA) xB) yr) yo) (by kernel_rfl)) Xgk) Xgj) Xgi
theorem Xgf {H:Type} (enc:TypeId×Value→H) (os:Os):Rows.exactDerivesSpec.preB enc Tryz.checked.prog Tryz.f5 [] false ((World.doorLaid Tryz.prog 4000 os).forCall (fun _ _=>0) ⟨#[],#[.agg #[.slice none 0 0,.slice none 0 0,.slice none 0 0],.int .u8 0,.int .u8 0],[]⟩).memory #[.agg #[.slice none 0 0,.slice none 0 0,.slice none 0 0],.int .u8 0,.int .u8 0] 8=true:=by kernel_rfl
theorem Xg9 {H:Type} (enc:TypeId×Value→H) (os:Os):Rows.exactDerivesSpec.sizedB enc Tryz.checked.prog Tryz.f5 false ((World.doorLaid Tryz.prog 4000 os).forCall (fun _ _=>0) ⟨#[],#[.agg #[.slice none 0 0,.slice none 0 0,.slice none 0 0],.int .u8 0,.int .u8 0],[]⟩).memory #[.agg #[.slice none 0 0,.slice none 0 0,.slice none 0 0],.int .u8 0,.int .u8 0] 8=true:=by kernel_rfl
theorem Xgg (os:Os):Input.okWideB Tryz.checked.prog ((World.doorLaid Tryz.prog 4000 os).forCall (fun _ _=>0) ⟨#[],#[.agg #[.slice none 0 0,.slice none 0 0,.slice none 0 0],.int .u8 0,.int .u8 0],[]⟩) 5 ⟨#[],#[.agg #[.slice none 0 0,.slice none 0 0,.slice none 0 0],.int .u8 0,.int .u8 0],[]⟩=true:=by kernel_rfl
theorem Xg4 (os:Os):((World.doorLaid Tryz.prog 4000 os).forCall (fun _ _=>0) ⟨#[],#[.agg #[.slice none 0 0,.slice none 0 0,.slice none 0 0],.int .u8 0,.int .u8 0],[]⟩).Shaped Tryz.checked.prog:=World.shaped_of_RefB (by kernel_rfl) (by kernel_rfl)
theorem Xgh:Tryz.prog.inits.idxOf? 5=none:=by kernel_rfl
theorem Xgc:(Tryz.f5.params.toList.all fun t=>Tryz.prog.readableRec t&&decide (t<Tryz.prog.types.size))=true:=by kernel_rfl
set_option maxRecDepth 100000 in
theorem Xg5 (os:Os) (started:os.Started) (H:Type) (enc:TypeId×Value→H) :
  ReturnsInHanded {} Tryz.checked os 5 .any (fun w args=>(Rows.exactDerivesSpec.pre enc Tryz.prog Tryz.f5 [] false w args∧laidMetH Tryz.prog Pu w)∧sizedMet enc Tryz.prog Tryz.f5 (OpenSpec.ofChange Rows.exactDerivesSpec) false w args)
   (Rows.exactDerivesSpec.post enc Tryz.prog Tryz.f5 false true false false):=by
 refine Ol os started enc Tryz.func5 Xgh rfl (fun ds h=>?_) rfl Xgc
  (ChangeSpec.witness_shaped (enc:=enc) (C:=Tryz.checked) (os:=os) (X:=fun w _=>laidMetH Tryz.prog Pu w) false (World.doorLaid Tryz.prog 4000 os) #[.agg #[.slice none 0 0,.slice none 0 0,.slice none 0 0],.int .u8 0,.int .u8 0] 8 rfl (Xg4 os) (Xgg os) (Xgf enc os) (Xg9 enc os) (xW os _)) ?_
 ·match ds,h with
  |[d1,d2,d3],_=>rfl
 ·intro W base args ds ps hval hA hF hG
  have hval:∀ (j:Nat) t v,(#[53,5,5]:Array TypeId)[j]?=some t→args[j]?=some v→Value.okWide Tryz.prog W .any base t v:=hval
  have hA:DataW.TrodAll enc Tryz.prog W 0 (fun _=>true) true [53,5,5] args.toList ds ps:=hA
  obtain ⟨v0,v1,v2,d0,d1,d2,p0,p1,p2,rfl,rfl,rfl,h0,h1,h2⟩:=trodAll_three hA
  obtain ⟨x,y,z,rfl,hp⟩:=dm (hval 0 _ _ rfl rfl) h0
  obtain ⟨n,rfl,_,_,hw⟩:=open_int Tryz.underlying5 (hval 1 _ _ rfl rfl) h1
  obtain ⟨m,rfl,_,_,hw2⟩:=open_int Tryz.underlying5 (hval 2 _ _ rfl rfl) h2
  have hn:0≤n∧n≤255:=by simpa [Lit.wf,IntKind.min,IntKind.max,IntKind.signed,IntKind.bits] using hw
  have hm:0≤m∧m≤255:=by simpa [Lit.wf,IntKind.min,IntKind.max,IntKind.signed,IntKind.bits] using hw2
  obtain ⟨k,rfl⟩:∃ k:Nat,n=(k:Int):=⟨n.toNat,by omega⟩
  obtain ⟨l,rfl⟩:∃ l:Nat,m=(l:Int):=⟨m.toNat,by omega⟩
  have a0:=hp x (by simp)
  have a1:=hp y (by simp)
  have a2:=hp z (by simp)
  exact Xha hF hG a0.1 a1.1 a2.1 a0.2.1 a1.2.1 a2.2.1 a0.2.2 a1.2.2 a2.2.2 (by omega) (by omega)
theorem Xg3:Tryz.prog.funcNamed "integraph/integraphlaw01.ExactDerives" = some 5:=by kernel_rfl
theorem Xgd:Tryz.f5.isInstance Tryz.checked.prog Rows.exactDerivesRow.origin Rows.exactDerivesRow.targs:=dec_t (by kernel_rfl)
theorem Xgb:Tryz.f5.isWrapper Tryz.checked.prog Rows.exactDerivesRow.wrapper Rows.exactDerivesRow.mainSum:=by unfold Func.isWrapper;first | (rw [if_pos (by decide +kernel)];kernel_rfl) | (rw [if_neg (by decide +kernel)];exact⟨rfl,rfl⟩)
theorem exactDerives_holds:Rows.ExactDerivesSaid :=
 OpenClaim.holds_of_wide 5 Tryz.f5 rfl rfl rfl rfl rfl rfl rfl ⟨rfl,rfl,rfl,rfl,rfl⟩ rfl rfl rfl rfl rfl Xg3 Tryz.func5 Xg6 Xgd Xgb
  (fun os started H enc _=>Xg5 os started H enc)
theorem Xg7:Rows.exactDerivesRow.wfByText (OpenSpec.ofChange Rows.exactDerivesSpec)=true:=by kernel_rfl
theorem Xg8:(Tryz.f5.params.toList.all fun u=>!Tryz.prog.wantsStandIn u)=true:=by kernel_rfl
theorem Xge:false=Rows.exactDerivesRow.goesBy Tryz.checked.prog:=by kernel_rfl
theorem exactDerives_card_holds:Rows.ExactDerivesCardSaid :=
 Claim7.holds_tied_plain_at .later [] [.data,.data,.data,.sentinel,.sentinel] true (true, "0bd04a9777c06c4babd2615d738c4370e7ee42132e89b6db1518d6fd8816c7a6") true
  exactDerives_holds (fun _ h=>by cases h) Xg7 (fun _ h=>by cases h) exactDerives_row_tie rfl ⟨rfl,rfl⟩ yp rfl
  (fun f fn hf hfn=>by
   obtain rfl:f=5:=Option.some.inj (Xg3.symm.trans hf) |>.symm
   obtain rfl:fn=Tryz.f5:=(Option.some.inj (Tryz.func5.symm.trans hfn)).symm
   exact⟨j9,fun j t ht=>by
    have hm:t∈Tryz.f5.params.toList:=by simpa using Array.mem_of_getElem? ht
    exact(show Tryz.prog.wantsStandIn t=false by simpa using List.all_eq_true.1 Xg8 t hm)⟩)
  Xge
#print axioms exactDerives_card_holds
end
end Go.Proofs.YtknegjaeoffnbaaGreatDoor
