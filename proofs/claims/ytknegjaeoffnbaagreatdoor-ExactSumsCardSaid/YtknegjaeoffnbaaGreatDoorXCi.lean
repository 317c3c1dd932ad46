/- The law ExactSums answers true whatever its input, and leaves its input as it was; condition: the listed variables of the library hold what the program lays into them. -/
import Derived.Test.YtknegjaeoffnbaaGreatDoorE0XCi
import Derived.Test.YtknegjaeoffnbaaGreatDoorTie
set_option linter.all false
set_option maxHeartbeats 4000000
namespace Go.Proofs.YtknegjaeoffnbaaGreatDoor
section
open Go.RowKit Go.ChangeShapes Go.WideShapes Ig
theorem Xlh:Rows.exactSumsRow.wf (OpenSpec.ofChange Rows.exactSumsSpec)=true:=by kernel_rfl
theorem Xlg:Tryz.f10.params.all (Tryz.checked.prog.readableRec ·)=true:=by kernel_rfl
theorem Xlf:namedTie Tryz.checked.prog Rows.exactSumsRow.named Rows.exactSumsSpec.vars=true:=by kernel_rfl
theorem Xle:(Rows.exactSumsRow.stops==[])=true:=by kernel_rfl
theorem Xld:(Tryz.checked.prog.stops==[])=true:=by kernel_rfl
theorem Xlc:(Rows.exactSumsRow.knobs==[])=true:=by kernel_rfl
theorem Xlb:(Tryz.checked.prog.stopKnobs==[])=true:=by kernel_rfl
theorem Xla:(Rows.exactSumsRow.inPlace==Tryz.checked.prog.inPlace 10)=true:=by kernel_rfl
theorem Xl9:(Rows.exactSumsRow.unfollowed==Tryz.checked.prog.unfollowed 10)=true:=by kernel_rfl
theorem Xl8:(Rows.exactSumsRow.recurses==Tryz.checked.prog.recurses 10)=true:=by kernel_rfl
theorem Xl2:(Rows.exactSumsRow.named==Tryz.checked.prog.varsNamed 10)=true:=by kernel_rfl
theorem Xl1:(Rows.exactSumsRow.maps==(Tryz.f10.params.toList++Rows.exactSumsSpec.plain.varTypes Tryz.checked.prog).any (Tryz.checked.prog.mapsRec ·))=true:=by kernel_rfl
theorem Xl0:(Rows.exactSumsRow.ifaces==(Tryz.f10.params.toList++Rows.exactSumsSpec.plain.varTypes Tryz.checked.prog).any (Tryz.checked.prog.ifacesRec ·))=true:=by kernel_rfl
theorem Xkz:(Rows.exactSumsRow.mapsOut==Tryz.checked.prog.mapsAmong Tryz.f10.resultTypes.toList)=true:=by kernel_rfl
theorem Xky:(Rows.exactSumsRow.loops==(Tryz.f10.params.toList++Rows.exactSumsSpec.plain.varTypes Tryz.checked.prog).any (Tryz.checked.prog.loopsFrom ·))=true:=by kernel_rfl
theorem Xkx:(Rows.exactSumsRow.wideKeys==(Tryz.f10.params.toList++Rows.exactSumsSpec.plain.varTypes Tryz.checked.prog++Tryz.f10.resultTypes.toList).any (Tryz.checked.prog.wideKeysFrom ·))=true:=by kernel_rfl
theorem Xkw:Rows.exactSumsSpec.vars.all (Tryz.checked.prog.varReadable ·)=true:=by kernel_rfl
theorem Xkv:(Tryz.f10.resultTypes.all (fun t=>Tryz.checked.prog.readableRec t&&decide (t<Tryz.checked.prog.types.size)))=true:=by kernel_rfl
theorem Xku:(Rows.exactSumsRow.ifacesOut==Tryz.f10.resultTypes.toList.any (Tryz.checked.prog.ifacesRec ·))=true:=by kernel_rfl
theorem Xkt:(Rows.exactSumsRow.loopsOut==Tryz.f10.resultTypes.toList.any (Tryz.checked.prog.loopsFrom ·))=true:=by kernel_rfl
theorem Xks:Rows.exactSumsRow.shortTexts.isNone=true:=by kernel_rfl
theorem Xkr:(Rows.exactSumsRow.pinned==Rows.exactSumsRow.pinnedBy)=true:=by kernel_rfl
theorem Xkq:(Rows.exactSumsRow.veiled==(Tryz.f10.params.toList++Rows.exactSumsSpec.plain.varTypes Tryz.checked.prog++Tryz.f10.resultTypes.toList).any (Tryz.checked.prog.veiledRec ·))=true:=by kernel_rfl
theorem Xkp:Rows.exactSumsRow.veiledFits Tryz.checked.prog Tryz.f10.params.toList (Tryz.f10.params.toList++Rows.exactSumsSpec.plain.varTypes Tryz.checked.prog++Tryz.f10.resultTypes.toList)=true:=by kernel_rfl
theorem Xjb:joinedFacts Tryz.checked.prog 10 Tryz.f10 Rows.exactSumsSpec Rows.exactSumsRow=true:=by
 unfold joinedFacts
 exact YC (YC (YC (YC (YC (YC (YC (YC (YC (YC (YC (YC (YC (YC (YC (YC (YC (YC (YC (YC (YC (YC (YC (YC (YC (YC (YC (YC (YC (YC (YC Xlh zc) zW) Xlg) Xlf) Xle) Xld) Xlc) Xlb) Xla) Xl9) Xl8) Xl2) Xl1) Xl0) Xkz) Xky) Xkx) Xkw) Xkv) Xku) Xkt) ze) Xks) jU) jV) zZ) zX) (by kernel_rfl)) Xkr) Xkq) Xkp
theorem Xkb {H:Type} (enc:TypeId×Value→H) (os:Os):Rows.exactSumsSpec.preB enc Tryz.checked.prog Tryz.f10 [] false ((World.doorLaid Tryz.prog 4000 os).forCall (fun _ _=>0) ⟨#[],#[.agg #[.slice none 0 0,.slice none 0 0,.string ⟨#[]⟩],.int .i64 0,.int .i64 0],[]⟩).memory #[.agg #[.slice none 0 0,.slice none 0 0,.string ⟨#[]⟩],.int .i64 0,.int .i64 0] 8=true:=by kernel_rfl
theorem Xjp {H:Type} (enc:TypeId×Value→H) (os:Os):Rows.exactSumsSpec.sizedB enc Tryz.checked.prog Tryz.f10 false ((World.doorLaid Tryz.prog 4000 os).forCall (fun _ _=>0) ⟨#[],#[.agg #[.slice none 0 0,.slice none 0 0,.string ⟨#[]⟩],.int .i64 0,.int .i64 0],[]⟩).memory #[.agg #[.slice none 0 0,.slice none 0 0,.string ⟨#[]⟩],.int .i64 0,.int .i64 0] 8=true:=by kernel_rfl
theorem Xkc (os:Os):Input.okWideB Tryz.checked.prog ((World.doorLaid Tryz.prog 4000 os).forCall (fun _ _=>0) ⟨#[],#[.agg #[.slice none 0 0,.slice none 0 0,.string ⟨#[]⟩],.int .i64 0,.int .i64 0],[]⟩) 10 ⟨#[],#[.agg #[.slice none 0 0,.slice none 0 0,.string ⟨#[]⟩],.int .i64 0,.int .i64 0],[]⟩=true:=by kernel_rfl
theorem Xj9 (os:Os):((World.doorLaid Tryz.prog 4000 os).forCall (fun _ _=>0) ⟨#[],#[.agg #[.slice none 0 0,.slice none 0 0,.string ⟨#[]⟩],.int .i64 0,.int .i64 0],[]⟩).Shaped Tryz.checked.prog:=World.shaped_of_RefB (by kernel_rfl) (by kernel_rfl)
theorem Xkd:Tryz.prog.inits.idxOf? 10=none:=by kernel_rfl
theorem Xk2:(Tryz.f10.params.toList.all fun t=>Tryz.prog.readableRec t&&decide (t<Tryz.prog.types.size))=true:=by kernel_rfl
set_option maxRecDepth 100000 in
theorem Xja (os:Os) (started:os.Started) (H:Type) (enc:TypeId×Value→H) :
  ReturnsInHanded {} Tryz.checked os 10 .any (fun w args=>(Rows.exactSumsSpec.pre enc Tryz.prog Tryz.f10 [] false w args∧laidMetH Tryz.prog Pc w)∧sizedMet enc Tryz.prog Tryz.f10 (OpenSpec.ofChange Rows.exactSumsSpec) false w args)
   (Rows.exactSumsSpec.post enc Tryz.prog Tryz.f10 false true false false):=by
 refine OL os started enc Tryz.func10 Xkd rfl (fun ds h=>?_) rfl Xk2
  (ChangeSpec.witness_shaped (enc:=enc) (C:=Tryz.checked) (os:=os) (X:=fun w _=>laidMetH Tryz.prog Pc w) false (World.doorLaid Tryz.prog 4000 os) #[.agg #[.slice none 0 0,.slice none 0 0,.string ⟨#[]⟩],.int .i64 0,.int .i64 0] 8 rfl (Xj9 os) (Xkc os) (Xkb enc os) (Xjp enc os) (jr os _)) ?_
 ·match ds,h with
  |[d1,d2,d3],_=>rfl
 ·intro W base args ds ps hval hA hF hG
  have hval:∀ (j:Nat) t v,(#[94,3,3]:Array TypeId)[j]?=some t→args[j]?=some v→Value.okWide Tryz.prog W .any base t v:=hval
  have hA:DataW.TrodAll enc Tryz.prog W 0 (fun _=>true) true [94,3,3] args.toList ds ps:=hA
  obtain ⟨v0,v1,v2,d0,d1,d2,p0,p1,p2,rfl,rfl,rfl,h0,h1,h2⟩:=trodAll_three hA
  obtain ⟨q,q2,n,cap,n2,cap2,l,l2,c,rfl,⟨a1,a2,a3,a4⟩,b1,b2,b3,b4⟩:=Xko (hval 0 _ _ rfl rfl) h0
  obtain ⟨v,rfl,_⟩:=open_int gO (hval 1 _ _ rfl rfl) h1
  obtain ⟨x,rfl,_⟩:=open_int gO (hval 2 _ _ rfl rfl) h2
  exact Xlo hF hG a1 a2 a3 a4 b1 b2 b3 b4
theorem Xik:Tryz.prog.funcNamed "integraph/integraphlaw01.ExactSums" = some 10:=by kernel_rfl
theorem Xk3:Tryz.f10.isInstance Tryz.checked.prog Rows.exactSumsRow.origin Rows.exactSumsRow.targs:=dec_t (by kernel_rfl)
theorem Xk1:Tryz.f10.isWrapper Tryz.checked.prog Rows.exactSumsRow.wrapper Rows.exactSumsRow.mainSum:=by unfold Func.isWrapper;first | (rw [if_pos (by decide +kernel)];kernel_rfl) | (rw [if_neg (by decide +kernel)];exact⟨rfl,rfl⟩)
theorem exactSums_holds:Rows.ExactSumsSaid :=
 OpenClaim.holds_of_wide 10 Tryz.f10 rfl rfl rfl rfl rfl rfl rfl ⟨rfl,rfl,rfl,rfl,rfl⟩ rfl rfl rfl rfl rfl Xik Tryz.func10 Xjb Xk3 Xk1
  (fun os started H enc _=>Xja os started H enc)
theorem Xjc:Rows.exactSumsRow.wfByText (OpenSpec.ofChange Rows.exactSumsSpec)=true:=by kernel_rfl
theorem Xjo:(Tryz.f10.params.toList.all fun u=>!Tryz.prog.wantsStandIn u)=true:=by kernel_rfl
theorem Xk4:false=Rows.exactSumsRow.goesBy Tryz.checked.prog:=by kernel_rfl
theorem exactSums_card_holds:Rows.ExactSumsCardSaid :=
 Claim7.holds_tied_plain_at .later [] [.data,.data,.data,.sentinel,.sentinel] true (true, "0bd04a9777c06c4babd2615d738c4370e7ee42132e89b6db1518d6fd8816c7a6") true
  exactSums_holds (fun _ h=>by cases h) Xjc (fun _ h=>by cases h) exactSums_row_tie rfl ⟨rfl,rfl⟩ zY rfl
  (fun f fn hf hfn=>by
   obtain rfl:f=10:=Option.some.inj (Xik.symm.trans hf) |>.symm
   obtain rfl:fn=Tryz.f10:=(Option.some.inj (Tryz.func10.symm.trans hfn)).symm
   exact⟨jT,fun j t ht=>by
    have hm:t∈Tryz.f10.params.toList:=by simpa using Array.mem_of_getElem? ht
    exact(show Tryz.prog.wantsStandIn t=false by simpa using List.all_eq_true.1 Xjo t hm)⟩)
  Xk4
#print axioms exactSums_card_holds
end
end Go.Proofs.YtknegjaeoffnbaaGreatDoor
