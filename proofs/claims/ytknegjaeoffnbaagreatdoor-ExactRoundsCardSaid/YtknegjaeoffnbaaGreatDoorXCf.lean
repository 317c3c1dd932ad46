/- The law ExactRounds answers true whatever its input, and leaves its input as it was; condition: the listed variables of the library hold what the program lays into them. -/
import Derived.Test.YtknegjaeoffnbaaGreatDoorE0XCf
import Derived.Test.YtknegjaeoffnbaaGreatDoorTie
set_option linter.all false
set_option maxHeartbeats 4000000
namespace Go.Proofs.YtknegjaeoffnbaaGreatDoor
section
open Go.RowKit Go.ChangeShapes Go.WideShapes Ig
theorem Xe3:Rows.exactRoundsRow.wf (OpenSpec.ofChange Rows.exactRoundsSpec)=true:=by kernel_rfl
theorem Xe2:Tryz.f4.params.all (Tryz.checked.prog.readableRec ·)=true:=by kernel_rfl
theorem Xe1:namedTie Tryz.checked.prog Rows.exactRoundsRow.named Rows.exactRoundsSpec.vars=true:=by kernel_rfl
theorem Xe0:(Rows.exactRoundsRow.stops==[])=true:=by kernel_rfl
theorem Xdz:(Tryz.checked.prog.stops==[])=true:=by kernel_rfl
theorem Xdy:(Rows.exactRoundsRow.knobs==[])=true:=by kernel_rfl
theorem Xdx:(Tryz.checked.prog.stopKnobs==[])=true:=by kernel_rfl
theorem Xdw:(Rows.exactRoundsRow.inPlace==Tryz.checked.prog.inPlace 4)=true:=by kernel_rfl
theorem Xdv:(Rows.exactRoundsRow.unfollowed==Tryz.checked.prog.unfollowed 4)=true:=by kernel_rfl
theorem Xdu:(Rows.exactRoundsRow.recurses==Tryz.checked.prog.recurses 4)=true:=by kernel_rfl
theorem Xdm:(Rows.exactRoundsRow.named==Tryz.checked.prog.varsNamed 4)=true:=by kernel_rfl
theorem Xdk:(Rows.exactRoundsRow.maps==(Tryz.f4.params.toList++Rows.exactRoundsSpec.plain.varTypes Tryz.checked.prog).any (Tryz.checked.prog.mapsRec ·))=true:=by kernel_rfl
theorem Xdj:(Rows.exactRoundsRow.ifaces==(Tryz.f4.params.toList++Rows.exactRoundsSpec.plain.varTypes Tryz.checked.prog).any (Tryz.checked.prog.ifacesRec ·))=true:=by kernel_rfl
theorem Xdi:(Rows.exactRoundsRow.mapsOut==Tryz.checked.prog.mapsAmong Tryz.f4.resultTypes.toList)=true:=by kernel_rfl
theorem Xdh:(Rows.exactRoundsRow.loops==(Tryz.f4.params.toList++Rows.exactRoundsSpec.plain.varTypes Tryz.checked.prog).any (Tryz.checked.prog.loopsFrom ·))=true:=by kernel_rfl
theorem Xdg:(Rows.exactRoundsRow.wideKeys==(Tryz.f4.params.toList++Rows.exactRoundsSpec.plain.varTypes Tryz.checked.prog++Tryz.f4.resultTypes.toList).any (Tryz.checked.prog.wideKeysFrom ·))=true:=by kernel_rfl
theorem Xdf:Rows.exactRoundsSpec.vars.all (Tryz.checked.prog.varReadable ·)=true:=by kernel_rfl
theorem Xde:(Tryz.f4.resultTypes.all (fun t=>Tryz.checked.prog.readableRec t&&decide (t<Tryz.checked.prog.types.size)))=true:=by kernel_rfl
theorem Xdd:(Rows.exactRoundsRow.ifacesOut==Tryz.f4.resultTypes.toList.any (Tryz.checked.prog.ifacesRec ·))=true:=by kernel_rfl
theorem Xdc:(Rows.exactRoundsRow.loopsOut==Tryz.f4.resultTypes.toList.any (Tryz.checked.prog.loopsFrom ·))=true:=by kernel_rfl
theorem Xdb:Rows.exactRoundsRow.shortTexts.isNone=true:=by kernel_rfl
theorem Xda:(Rows.exactRoundsRow.pinned==Rows.exactRoundsRow.pinnedBy)=true:=by kernel_rfl
theorem Xd9:(Rows.exactRoundsRow.veiled==(Tryz.f4.params.toList++Rows.exactRoundsSpec.plain.varTypes Tryz.checked.prog++Tryz.f4.resultTypes.toList).any (Tryz.checked.prog.veiledRec ·))=true:=by kernel_rfl
theorem Xd8:Rows.exactRoundsRow.veiledFits Tryz.checked.prog Tryz.f4.params.toList (Tryz.f4.params.toList++Rows.exactRoundsSpec.plain.varTypes Tryz.checked.prog++Tryz.f4.resultTypes.toList)=true:=by kernel_rfl
theorem Xci:joinedFacts Tryz.checked.prog 4 Tryz.f4 Rows.exactRoundsSpec Rows.exactRoundsRow=true:=by
 unfold joinedFacts
 exact YC (YC (YC (YC (YC (YC (YC (YC (YC (YC (YC (YC (YC (YC (YC (YC (YC (YC (YC (YC (YC (YC (YC (YC (YC (YC (YC (YC (YC (YC (YC Xe3 zc) zW) Xe2) Xe1) Xe0) Xdz) Xdy) Xdx) Xdw) Xdv) Xdu) Xdm) Xdk) Xdj) Xdi) Xdh) Xdg) Xdf) Xde) Xdd) Xdc) ze) Xdb) jU) jV) zZ) zX) (by kernel_rfl)) Xda) Xd9) Xd8
theorem Xd0 {H:Type} (enc:TypeId×Value→H) (os:Os):Rows.exactRoundsSpec.preB enc Tryz.checked.prog Tryz.f4 [] false ((World.doorLaid Tryz.prog 4000 os).forCall (fun _ _=>0) ⟨#[],#[.agg #[.string ⟨#[]⟩,.string ⟨#[]⟩],.int .u8 0],[]⟩).memory #[.agg #[.string ⟨#[]⟩,.string ⟨#[]⟩],.int .u8 0] 8=true:=by kernel_rfl
theorem Xcp {H:Type} (enc:TypeId×Value→H) (os:Os):Rows.exactRoundsSpec.sizedB enc Tryz.checked.prog Tryz.f4 false ((World.doorLaid Tryz.prog 4000 os).forCall (fun _ _=>0) ⟨#[],#[.agg #[.string ⟨#[]⟩,.string ⟨#[]⟩],.int .u8 0],[]⟩).memory #[.agg #[.string ⟨#[]⟩,.string ⟨#[]⟩],.int .u8 0] 8=true:=by kernel_rfl
theorem Xd1 (os:Os):Input.okWideB Tryz.checked.prog ((World.doorLaid Tryz.prog 4000 os).forCall (fun _ _=>0) ⟨#[],#[.agg #[.string ⟨#[]⟩,.string ⟨#[]⟩],.int .u8 0],[]⟩) 4 ⟨#[],#[.agg #[.string ⟨#[]⟩,.string ⟨#[]⟩],.int .u8 0],[]⟩=true:=by kernel_rfl
theorem Xcg (os:Os):((World.doorLaid Tryz.prog 4000 os).forCall (fun _ _=>0) ⟨#[],#[.agg #[.string ⟨#[]⟩,.string ⟨#[]⟩],.int .u8 0],[]⟩).Shaped Tryz.checked.prog:=World.shaped_of_RefB (by kernel_rfl) (by kernel_rfl)
theorem Xd2:Tryz.prog.inits.idxOf? 4=none:=by kernel_rfl
theorem Xcx:(Tryz.f4.params.toList.all fun t=>Tryz.prog.readableRec t&&decide (t<Tryz.prog.types.size))=true:=by kernel_rfl
set_option maxRecDepth 100000 in
theorem Xch (os:Os) (started:os.Started) (H:Type) (enc:TypeId×Value→H) :
  ReturnsInHanded {} Tryz.checked os 4 .any (fun w args=>(Rows.exactRoundsSpec.pre enc Tryz.prog Tryz.f4 [] false w args∧laidMetH Tryz.prog Pc w)∧sizedMet enc Tryz.prog Tryz.f4 (OpenSpec.ofChange Rows.exactRoundsSpec) false w args)
   (Rows.exactRoundsSpec.post enc Tryz.prog Tryz.f4 false true false false):=by
 refine OL os started enc Tryz.func4 Xd2 rfl (fun ds h=>?_) rfl Xcx
  (ChangeSpec.witness_shaped (enc:=enc) (C:=Tryz.checked) (os:=os) (X:=fun w _=>laidMetH Tryz.prog Pc w) false (World.doorLaid Tryz.prog 4000 os) #[.agg #[.string ⟨#[]⟩,.string ⟨#[]⟩],.int .u8 0] 8 rfl (Xcg os) (Xd1 os) (Xd0 enc os) (Xcp enc os) (jr os _)) ?_
 ·match ds,h with
  |[d1,d2],_=>rfl
 ·intro W base args ds ps hval hA hF hG
  have hval:∀ (j:Nat) t v,(#[24,5]:Array TypeId)[j]?=some t→args[j]?=some v→Value.okWide Tryz.prog W .any base t v:=hval
  have hA:DataW.TrodAll enc Tryz.prog W 0 (fun _=>true) true [24,5] args.toList ds ps:=hA
  obtain ⟨v0,v1,d0,d1,p0,p1,rfl,rfl,rfl,h0,h1⟩:=trodAll_two hA
  obtain ⟨lo,hi,rfl⟩:=Fi (hval 0 _ _ rfl rfl) h0
  obtain ⟨n,rfl,_,_,hw⟩:=open_int Tryz.underlying5 (hval 1 _ _ rfl rfl) h1
  have hn:0≤n∧n≤255:=by simpa [Lit.wf,IntKind.min,IntKind.max,IntKind.signed,IntKind.bits] using hw
  obtain ⟨k,rfl⟩:∃ k:Nat,n=(k:Int):=⟨n.toNat,by omega⟩
  exact Xe8 hF hG (by omega)
theorem Xc6:Tryz.prog.funcNamed "integraph/integraphlaw01.ExactRounds" = some 4:=by kernel_rfl
theorem Xcy:Tryz.f4.isInstance Tryz.checked.prog Rows.exactRoundsRow.origin Rows.exactRoundsRow.targs:=dec_t (by kernel_rfl)
theorem Xcw:Tryz.f4.isWrapper Tryz.checked.prog Rows.exactRoundsRow.wrapper Rows.exactRoundsRow.mainSum:=by unfold Func.isWrapper;first | (rw [if_pos (by decide +kernel)];kernel_rfl) | (rw [if_neg (by decide +kernel)];exact⟨rfl,rfl⟩)
theorem exactRounds_holds:Rows.ExactRoundsSaid :=
 OpenClaim.holds_of_wide 4 Tryz.f4 rfl rfl rfl rfl rfl rfl rfl ⟨rfl,rfl,rfl,rfl,rfl⟩ rfl rfl rfl rfl rfl Xc6 Tryz.func4 Xci Xcy Xcw
  (fun os started H enc _=>Xch os started H enc)
theorem Xcj:Rows.exactRoundsRow.wfByText (OpenSpec.ofChange Rows.exactRoundsSpec)=true:=by kernel_rfl
theorem Xco:(Tryz.f4.params.toList.all fun u=>!Tryz.prog.wantsStandIn u)=true:=by kernel_rfl
theorem Xcz:false=Rows.exactRoundsRow.goesBy Tryz.checked.prog:=by kernel_rfl
theorem exactRounds_card_holds:Rows.ExactRoundsCardSaid :=
 Claim7.holds_tied_plain_at .later [] [.data,.data,.data,.sentinel,.sentinel] true (true, "0bd04a9777c06c4babd2615d738c4370e7ee42132e89b6db1518d6fd8816c7a6") true
  exactRounds_holds (fun _ h=>by cases h) Xcj (fun _ h=>by cases h) exactRounds_row_tie rfl ⟨rfl,rfl⟩ zY rfl
  (fun f fn hf hfn=>by
   obtain rfl:f=4:=Option.some.inj (Xc6.symm.trans hf) |>.symm
   obtain rfl:fn=Tryz.f4:=(Option.some.inj (Tryz.func4.symm.trans hfn)).symm
   exact⟨jT,fun j t ht=>by
    have hm:t∈Tryz.f4.params.toList:=by simpa using Array.mem_of_getElem? ht
    exact(show Tryz.prog.wantsStandIn t=false by simpa using List.all_eq_true.1 Xco t hm)⟩)
  Xcz
#print axioms exactRounds_card_holds
end
end Go.Proofs.YtknegjaeoffnbaaGreatDoor
