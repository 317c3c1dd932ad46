/- For every input the law EncloseChains answers true: the polynomial solutions of a chain x' = a + b t, y' = x, z' = y lie in the boxes of a tube at all its ends, and in At between them. -/
import Derived.Test.YtpmehagnedbkhaaGreatDoorE1XCx
import Derived.Test.YtpmehagnedbkhaaGreatDoorTie
set_option linter.all false
set_option maxHeartbeats 4000000
namespace Go.Proofs.YtpmehagnedbkhaaGreatDoor
section
open Go.RowKit Go.ChangeShapes Go.WideShapes Ig
theorem QDo:Rows.encloseChainsRow.wf (OpenSpec.ofChange Rows.encloseChainsSpec)=true:=by kernel_rfl
theorem QDn:Tryz.f4.params.all (Tryz.checked.prog.readableRec ·)=true:=by kernel_rfl
theorem QDm:namedTie Tryz.checked.prog Rows.encloseChainsRow.named Rows.encloseChainsSpec.vars=true:=by kernel_rfl
theorem QDl:(Rows.encloseChainsRow.stops==[])=true:=by kernel_rfl
theorem QDk:(Tryz.checked.prog.stops==[])=true:=by kernel_rfl
theorem QDj:(Rows.encloseChainsRow.knobs==[])=true:=by kernel_rfl
theorem QDi:(Tryz.checked.prog.stopKnobs==[])=true:=by kernel_rfl
theorem QDh:(Rows.encloseChainsRow.inPlace==Tryz.checked.prog.inPlace 4)=true:=by kernel_rfl
theorem QDg:(Rows.encloseChainsRow.unfollowed==Tryz.checked.prog.unfollowed 4)=true:=by kernel_rfl
theorem QDf:(Rows.encloseChainsRow.recurses==Tryz.checked.prog.recurses 4)=true:=by kernel_rfl
theorem QCH:(Rows.encloseChainsRow.named==Tryz.checked.prog.varsNamed 4)=true:=by kernel_rfl
theorem QCG:(Rows.encloseChainsRow.maps==(Tryz.f4.params.toList++Rows.encloseChainsSpec.plain.varTypes Tryz.checked.prog).any (Tryz.checked.prog.mapsRec ·))=true:=by kernel_rfl
theorem QCF:(Rows.encloseChainsRow.ifaces==(Tryz.f4.params.toList++Rows.encloseChainsSpec.plain.varTypes Tryz.checked.prog).any (Tryz.checked.prog.ifacesRec ·))=true:=by kernel_rfl
theorem QCE:(Rows.encloseChainsRow.mapsOut==Tryz.checked.prog.mapsAmong Tryz.f4.resultTypes.toList)=true:=by kernel_rfl
theorem QCD:(Rows.encloseChainsRow.loops==(Tryz.f4.params.toList++Rows.encloseChainsSpec.plain.varTypes Tryz.checked.prog).any (Tryz.checked.prog.loopsFrom ·))=true:=by kernel_rfl
theorem QCC:(Rows.encloseChainsRow.wideKeys==(Tryz.f4.params.toList++Rows.encloseChainsSpec.plain.varTypes Tryz.checked.prog++Tryz.f4.resultTypes.toList).any (Tryz.checked.prog.wideKeysFrom ·))=true:=by kernel_rfl
theorem QCB:Rows.encloseChainsSpec.vars.all (Tryz.checked.prog.varReadable ·)=true:=by kernel_rfl
theorem QCA:(Tryz.f4.resultTypes.all (fun t=>Tryz.checked.prog.readableRec t&&decide (t<Tryz.checked.prog.types.size)))=true:=by kernel_rfl
theorem QB9:(Rows.encloseChainsRow.ifacesOut==Tryz.f4.resultTypes.toList.any (Tryz.checked.prog.ifacesRec ·))=true:=by kernel_rfl
theorem QB8:(Rows.encloseChainsRow.loopsOut==Tryz.f4.resultTypes.toList.any (Tryz.checked.prog.loopsFrom ·))=true:=by kernel_rfl
theorem QB7:Rows.encloseChainsRow.shortTexts.isNone=true:=by kernel_rfl
theorem QB6:(Rows.encloseChainsRow.pinned==Rows.encloseChainsRow.pinnedBy)=true:=by kernel_rfl
theorem QB5:(Rows.encloseChainsRow.veiled==(Tryz.f4.params.toList++Rows.encloseChainsSpec.plain.varTypes Tryz.checked.prog++Tryz.f4.resultTypes.toList).any (Tryz.checked.prog.veiledRec ·))=true:=by kernel_rfl
theorem QB4:Rows.encloseChainsRow.veiledFits Tryz.checked.prog Tryz.f4.params.toList (Tryz.f4.params.toList++Rows.encloseChainsSpec.plain.varTypes Tryz.checked.prog++Tryz.f4.resultTypes.toList)=true:=by kernel_rfl
theorem kJ:joinedFacts Tryz.checked.prog 4 Tryz.f4 Rows.encloseChainsSpec Rows.encloseChainsRow=true:=by
 unfold joinedFacts
 exact Y1 (Y1 (Y1 (Y1 (Y1 (Y1 (Y1 (Y1 (Y1 (Y1 (Y1 (Y1 (Y1 (Y1 (Y1 (Y1 (Y1 (Y1 (Y1 (Y1 (Y1 (Y1 (Y1 (Y1 (Y1 (Y1 (Y1 (Y1 (Y1 (Y1 (Y1 QDo QC5) QC1) QDn) QDm) QDl) QDk) QDj) QDi) QDh) QDg) QDf) QCH) QCG) QCF) QCE) QCD) QCC) QCB) QCA) QB9) QB8) QC6) QB7) QAH) QAI) QC4) QC2) (by kernel_rfl)) QB6) QB5) QB4
theorem QAX{H:Type}(enc:TypeId×Value→H)(os:Os):Rows.encloseChainsSpec.preB enc Tryz.checked.prog Tryz.f4 [] false ((World.doorLaid Tryz.prog 4000 os).forCall (fun _ _=>0) ⟨#[],#[.agg #[.string ⟨#[]⟩,.string ⟨#[]⟩,.string ⟨#[]⟩,.string ⟨#[]⟩,.string ⟨#[]⟩],.int .u8 0,.int .u8 0],[]⟩).memory #[.agg #[.string ⟨#[]⟩,.string ⟨#[]⟩,.string ⟨#[]⟩,.string ⟨#[]⟩,.string ⟨#[]⟩],.int .u8 0,.int .u8 0] 8=true:=by kernel_rfl
theorem gK{H:Type}(enc:TypeId×Value→H)(os:Os):Rows.encloseChainsSpec.sizedB enc Tryz.checked.prog Tryz.f4 false ((World.doorLaid Tryz.prog 4000 os).forCall (fun _ _=>0) ⟨#[],#[.agg #[.string ⟨#[]⟩,.string ⟨#[]⟩,.string ⟨#[]⟩,.string ⟨#[]⟩,.string ⟨#[]⟩],.int .u8 0,.int .u8 0],[]⟩).memory #[.agg #[.string ⟨#[]⟩,.string ⟨#[]⟩,.string ⟨#[]⟩,.string ⟨#[]⟩,.string ⟨#[]⟩],.int .u8 0,.int .u8 0] 8=true:=by kernel_rfl
theorem QAY(os:Os):Input.okWideB Tryz.checked.prog ((World.doorLaid Tryz.prog 4000 os).forCall (fun _ _=>0) ⟨#[],#[.agg #[.string ⟨#[]⟩,.string ⟨#[]⟩,.string ⟨#[]⟩,.string ⟨#[]⟩,.string ⟨#[]⟩],.int .u8 0,.int .u8 0],[]⟩) 4 ⟨#[],#[.agg #[.string ⟨#[]⟩,.string ⟨#[]⟩,.string ⟨#[]⟩,.string ⟨#[]⟩,.string ⟨#[]⟩],.int .u8 0,.int .u8 0],[]⟩=true:=by kernel_rfl
theorem kH(os:Os):((World.doorLaid Tryz.prog 4000 os).forCall (fun _ _=>0) ⟨#[],#[.agg #[.string ⟨#[]⟩,.string ⟨#[]⟩,.string ⟨#[]⟩,.string ⟨#[]⟩,.string ⟨#[]⟩],.int .u8 0,.int .u8 0],[]⟩).Shaped Tryz.checked.prog:=World.shaped_of_RefB (by kernel_rfl) (by kernel_rfl)
theorem QAZ:Tryz.prog.inits.idxOf? 4=none:=by kernel_rfl
theorem uF:(Tryz.f4.params.toList.all fun t=>Tryz.prog.readableRec t&&decide (t<Tryz.prog.types.size))=true:=by kernel_rfl
set_option maxRecDepth 100000 in
theorem kI(os:Os)(started:os.Started)(H:Type)(enc:TypeId×Value→H):
  ReturnsInHanded {} Tryz.checked os 4 .any (fun w args=>(Rows.encloseChainsSpec.pre enc Tryz.prog Tryz.f4 [] false w args∧laidMetH Tryz.prog Ta w)∧sizedMet enc Tryz.prog Tryz.f4 (OpenSpec.ofChange Rows.encloseChainsSpec) false w args)
   (Rows.encloseChainsSpec.post enc Tryz.prog Tryz.f4 false true false false):=by
 refine kB os started enc Tryz.func4 QAZ rfl (fun ds h=>?_) rfl uF
  (ChangeSpec.witness_shaped (enc:=enc) (C:=Tryz.checked) (os:=os) (X:=fun w _=>laidMetH Tryz.prog Ta w) false (World.doorLaid Tryz.prog 4000 os) #[.agg #[.string ⟨#[]⟩,.string ⟨#[]⟩,.string ⟨#[]⟩,.string ⟨#[]⟩,.string ⟨#[]⟩],.int .u8 0,.int .u8 0] 8 rfl (kH os) (QAY os) (QAX enc os) (gK enc os) (QAf os _)) ?_
 ·match ds,h with
  |[d1,d2,d3],_=>rfl
 ·intro W base args ds ps hval hA hF hG
  have hval:∀(j:Nat) t v,(#[50,5,5]:Array TypeId)[j]?=some t→args[j]?=some v→Value.okWide Tryz.prog W .any base t v:=hval
  have hA:DataW.TrodAll enc Tryz.prog W 0 (fun _=>true) true [50,5,5] args.toList ds ps:=hA
  obtain⟨v0,v1,v2,d0,d1,d2,p0,p1,p2,rfl,rfl,rfl,h0,h1,h2⟩:=trodAll_three hA
  obtain⟨a,b,c,d,e,rfl⟩:=QGB (hval 0 _ _ rfl rfl) h0
  obtain⟨k,rfl,hk⟩:=QC7 Tryz.underlying5 (hval 1 _ _ rfl rfl) h1
  obtain⟨l,rfl,hl⟩:=QC7 Tryz.underlying5 (hval 2 _ _ rfl rfl) h2
  exact QFH hF hG hk hl
theorem LU:Tryz.prog.funcNamed "integraph/integraphlaw08.EncloseChains" = some 4:=by kernel_rfl
theorem uG:Tryz.f4.isInstance Tryz.checked.prog Rows.encloseChainsRow.origin Rows.encloseChainsRow.targs:=QKc (by kernel_rfl)
theorem uE:Tryz.f4.isWrapper Tryz.checked.prog Rows.encloseChainsRow.wrapper Rows.encloseChainsRow.mainSum:=by unfold Func.isWrapper;first | (rw[if_pos (by decide +kernel)];kernel_rfl) | (rw[if_neg (by decide +kernel)];exact⟨rfl,rfl⟩)
theorem encloseChains_holds:Rows.EncloseChainsSaid :=
 OpenClaim.holds_of_wide 4 Tryz.f4 rfl rfl rfl rfl rfl rfl rfl ⟨rfl,rfl,rfl,rfl,rfl⟩ rfl rfl rfl rfl rfl LU Tryz.func4 kJ uG uE
  (fun os started H enc _=>kI os started H enc)
theorem kK:Rows.encloseChainsRow.wfByText (OpenSpec.ofChange Rows.encloseChainsSpec)=true:=by kernel_rfl
theorem gJ:(Tryz.f4.params.toList.all fun u=>!Tryz.prog.wantsStandIn u)=true:=by kernel_rfl
theorem uH:false=Rows.encloseChainsRow.goesBy Tryz.checked.prog:=by kernel_rfl
theorem encloseChains_card_holds:Rows.EncloseChainsCardSaid :=
 Claim7.holds_tied_plain_at .later [] [.data,.data,.data,.sentinel,.sentinel] true (true, "56559adeb064e839cf8b3946cef90c03fa4af672f842f0aaf67bd355a96889d2") true
  encloseChains_holds (fun _ h=>by cases h) kK (fun _ h=>by cases h) encloseChains_row_tie rfl ⟨rfl,rfl⟩ QC3 rfl
  (fun f fn hf hfn=>by
   obtain rfl:f=4:=Option.some.inj (LU.symm.trans hf) |>.symm
   obtain rfl:fn=Tryz.f4:=(Option.some.inj (Tryz.func4.symm.trans hfn)).symm
   exact⟨QAG,fun j t ht=>by
    have hm:t∈Tryz.f4.params.toList:=by simpa using Array.mem_of_getElem? ht
    exact(show Tryz.prog.wantsStandIn t=false by simpa using List.all_eq_true.1 gJ t hm)⟩)
  uH
#print axioms encloseChains_card_holds
end
end Go.Proofs.YtpmehagnedbkhaaGreatDoor
