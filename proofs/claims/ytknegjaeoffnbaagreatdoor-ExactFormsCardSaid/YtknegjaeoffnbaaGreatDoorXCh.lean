/- The law ExactForms answers true whatever its input, and leaves its input as it was; condition: the listed variables of the library hold what the program lays into them. -/
import Derived.Test.YtknegjaeoffnbaaGreatDoorE0XCh
import Derived.Test.YtknegjaeoffnbaaGreatDoorTie
set_option linter.all false
set_option maxHeartbeats 4000000
namespace Go.Proofs.YtknegjaeoffnbaaGreatDoor
section
open Go.RowKit Go.ChangeShapes Go.WideShapes Ig
theorem Xnf:Rows.exactFormsRow.wf (OpenSpec.ofChange Rows.exactFormsSpec)=true:=by kernel_rfl
theorem Xne:Tryz.f8.params.all (Tryz.checked.prog.readableRec ·)=true:=by kernel_rfl
theorem Xnd:namedTie Tryz.checked.prog Rows.exactFormsRow.named Rows.exactFormsSpec.vars=true:=by kernel_rfl
theorem Xnc:(Rows.exactFormsRow.stops==[])=true:=by kernel_rfl
theorem Xnb:(Tryz.checked.prog.stops==[])=true:=by kernel_rfl
theorem Xna:(Rows.exactFormsRow.knobs==[])=true:=by kernel_rfl
theorem Xn9:(Tryz.checked.prog.stopKnobs==[])=true:=by kernel_rfl
theorem Xn8:(Rows.exactFormsRow.inPlace==Tryz.checked.prog.inPlace 8)=true:=by kernel_rfl
theorem Xn7:(Rows.exactFormsRow.unfollowed==Tryz.checked.prog.unfollowed 8)=true:=by kernel_rfl
theorem Xn6:(Rows.exactFormsRow.recurses==Tryz.checked.prog.recurses 8)=true:=by kernel_rfl
theorem Xn3:(Rows.exactFormsRow.named==Tryz.checked.prog.varsNamed 8)=true:=by kernel_rfl
theorem Xn2:(Rows.exactFormsRow.maps==(Tryz.f8.params.toList++Rows.exactFormsSpec.plain.varTypes Tryz.checked.prog).any (Tryz.checked.prog.mapsRec ·))=true:=by kernel_rfl
theorem Xn1:(Rows.exactFormsRow.ifaces==(Tryz.f8.params.toList++Rows.exactFormsSpec.plain.varTypes Tryz.checked.prog).any (Tryz.checked.prog.ifacesRec ·))=true:=by kernel_rfl
theorem Xn0:(Rows.exactFormsRow.mapsOut==Tryz.checked.prog.mapsAmong Tryz.f8.resultTypes.toList)=true:=by kernel_rfl
theorem Xmz:(Rows.exactFormsRow.loops==(Tryz.f8.params.toList++Rows.exactFormsSpec.plain.varTypes Tryz.checked.prog).any (Tryz.checked.prog.loopsFrom ·))=true:=by kernel_rfl
theorem Xmy:(Rows.exactFormsRow.wideKeys==(Tryz.f8.params.toList++Rows.exactFormsSpec.plain.varTypes Tryz.checked.prog++Tryz.f8.resultTypes.toList).any (Tryz.checked.prog.wideKeysFrom ·))=true:=by kernel_rfl
theorem Xmx:Rows.exactFormsSpec.vars.all (Tryz.checked.prog.varReadable ·)=true:=by kernel_rfl
theorem Xmw:(Tryz.f8.resultTypes.all (fun t=>Tryz.checked.prog.readableRec t&&decide (t<Tryz.checked.prog.types.size)))=true:=by kernel_rfl
theorem Xmv:(Rows.exactFormsRow.ifacesOut==Tryz.f8.resultTypes.toList.any (Tryz.checked.prog.ifacesRec ·))=true:=by kernel_rfl
theorem Xmu:(Rows.exactFormsRow.loopsOut==Tryz.f8.resultTypes.toList.any (Tryz.checked.prog.loopsFrom ·))=true:=by kernel_rfl
theorem Xmt:Rows.exactFormsRow.shortTexts.isNone=true:=by kernel_rfl
theorem Xms:(Rows.exactFormsRow.pinned==Rows.exactFormsRow.pinnedBy)=true:=by kernel_rfl
theorem Xmr:(Rows.exactFormsRow.veiled==(Tryz.f8.params.toList++Rows.exactFormsSpec.plain.varTypes Tryz.checked.prog++Tryz.f8.resultTypes.toList).any (Tryz.checked.prog.veiledRec ·))=true:=by kernel_rfl
theorem Xmq:Rows.exactFormsRow.veiledFits Tryz.checked.prog Tryz.f8.params.toList (Tryz.f8.params.toList++Rows.exactFormsSpec.plain.varTypes Tryz.checked.prog++Tryz.f8.resultTypes.toList)=true:=by kernel_rfl
theorem Xm4:joinedFacts Tryz.checked.prog 8 Tryz.f8 Rows.exactFormsSpec Rows.exactFormsRow=true:=by
 unfold joinedFacts
 exact YC (YC (YC (YC (YC (YC (YC (YC (YC (YC (YC (YC (YC (YC (YC (YC (YC (YC (YC (YC (YC (YC (YC (YC (YC (YC (YC (YC (YC (YC (YC Xnf zc) zW) Xne) Xnd) Xnc) Xnb) Xna) Xn9) Xn8) Xn7) Xn6) Xn3) Xn2) Xn1) Xn0) Xmz) Xmy) Xmx) Xmw) Xmv) Xmu) ze) Xmt) jU) jV) zZ) zX) (by kernel_rfl)) Xms) Xmr) Xmq
theorem Xmj {H:Type} (enc:TypeId×Value→H) (os:Os):Rows.exactFormsSpec.preB enc Tryz.checked.prog Tryz.f8 [] false ((World.doorLaid Tryz.prog 4000 os).forCall (fun _ _=>0) ⟨#[],#[.slice none 0 0,.int .i64 0],[]⟩).memory #[.slice none 0 0,.int .i64 0] 8=true:=by kernel_rfl
theorem Xm9 {H:Type} (enc:TypeId×Value→H) (os:Os):Rows.exactFormsSpec.sizedB enc Tryz.checked.prog Tryz.f8 false ((World.doorLaid Tryz.prog 4000 os).forCall (fun _ _=>0) ⟨#[],#[.slice none 0 0,.int .i64 0],[]⟩).memory #[.slice none 0 0,.int .i64 0] 8=true:=by kernel_rfl
theorem Xmk (os:Os):Input.okWideB Tryz.checked.prog ((World.doorLaid Tryz.prog 4000 os).forCall (fun _ _=>0) ⟨#[],#[.slice none 0 0,.int .i64 0],[]⟩) 8 ⟨#[],#[.slice none 0 0,.int .i64 0],[]⟩=true:=by kernel_rfl
theorem Xm0 (os:Os):((World.doorLaid Tryz.prog 4000 os).forCall (fun _ _=>0) ⟨#[],#[.slice none 0 0,.int .i64 0],[]⟩).Shaped Tryz.checked.prog:=World.shaped_of_RefB (by kernel_rfl) (by kernel_rfl)
theorem Xmm:Tryz.prog.inits.idxOf? 8=none:=by kernel_rfl
theorem Xmf:(Tryz.f8.params.toList.all fun t=>Tryz.prog.readableRec t&&decide (t<Tryz.prog.types.size))=true:=by kernel_rfl
set_option maxRecDepth 100000 in
theorem Xm3 (os:Os) (started:os.Started) (H:Type) (enc:TypeId×Value→H) :
  ReturnsInHanded {} Tryz.checked os 8 .any (fun w args=>(Rows.exactFormsSpec.pre enc Tryz.prog Tryz.f8 [] false w args∧laidMetH Tryz.prog Pc w)∧sizedMet enc Tryz.prog Tryz.f8 (OpenSpec.ofChange Rows.exactFormsSpec) false w args)
   (Rows.exactFormsSpec.post enc Tryz.prog Tryz.f8 false true false false):=by
 refine OL os started enc Tryz.func8 Xmm rfl (fun ds h=>?_) rfl Xmf
  (ChangeSpec.witness_shaped (enc:=enc) (C:=Tryz.checked) (os:=os) (X:=fun w _=>laidMetH Tryz.prog Pc w) false (World.doorLaid Tryz.prog 4000 os) #[.slice none 0 0,.int .i64 0] 8 rfl (Xm0 os) (Xmk os) (Xmj enc os) (Xm9 enc os) (jr os _)) ?_
 ·match ds,h with
  |[d1,d2],_=>rfl
 ·intro W base args ds ps hval hA hF hG
  have hval:∀ (j:Nat) t v,(#[51,3]:Array TypeId)[j]?=some t→args[j]?=some v→Value.okWide Tryz.prog W .any base t v:=hval
  have hA:DataW.TrodAll enc Tryz.prog W 0 (fun _=>true) true [51,3] args.toList ds ps:=hA
  obtain ⟨v0,v1,d0,d1,p0,p1,rfl,rfl,rfl,h0,h1⟩:=trodAll_two hA
  obtain ⟨q,n,cap,ps,rfl,hR,hP,hn,hb⟩:=Xmi Tryz.underlying51 (hval 0 _ _ rfl rfl) h0
  obtain ⟨v,rfl,_⟩:=open_int gO (hval 1 _ _ rfl rfl) h1
  exact Xnh hF hG hR hP hn hb
theorem Xjf:Tryz.prog.funcNamed "integraph/integraphlaw01.ExactForms" = some 8:=by kernel_rfl
theorem Xmg:Tryz.f8.isInstance Tryz.checked.prog Rows.exactFormsRow.origin Rows.exactFormsRow.targs:=dec_t (by kernel_rfl)
theorem Xme:Tryz.f8.isWrapper Tryz.checked.prog Rows.exactFormsRow.wrapper Rows.exactFormsRow.mainSum:=by unfold Func.isWrapper;first | (rw [if_pos (by decide +kernel)];kernel_rfl) | (rw [if_neg (by decide +kernel)];exact⟨rfl,rfl⟩)
theorem exactForms_holds:Rows.ExactFormsSaid :=
 OpenClaim.holds_of_wide 8 Tryz.f8 rfl rfl rfl rfl rfl rfl rfl ⟨rfl,rfl,rfl,rfl,rfl⟩ rfl rfl rfl rfl rfl Xjf Tryz.func8 Xm4 Xmg Xme
  (fun os started H enc _=>Xm3 os started H enc)
theorem Xm5:Rows.exactFormsRow.wfByText (OpenSpec.ofChange Rows.exactFormsSpec)=true:=by kernel_rfl
theorem Xm8:(Tryz.f8.params.toList.all fun u=>!Tryz.prog.wantsStandIn u)=true:=by kernel_rfl
theorem Xmh:false=Rows.exactFormsRow.goesBy Tryz.checked.prog:=by kernel_rfl
theorem exactForms_card_holds:Rows.ExactFormsCardSaid :=
 Claim7.holds_tied_plain_at .later [] [.data,.data,.data,.sentinel,.sentinel] true (true, "0bd04a9777c06c4babd2615d738c4370e7ee42132e89b6db1518d6fd8816c7a6") true
  exactForms_holds (fun _ h=>by cases h) Xm5 (fun _ h=>by cases h) exactForms_row_tie rfl ⟨rfl,rfl⟩ zY rfl
  (fun f fn hf hfn=>by
   obtain rfl:f=8:=Option.some.inj (Xjf.symm.trans hf) |>.symm
   obtain rfl:fn=Tryz.f8:=(Option.some.inj (Tryz.func8.symm.trans hfn)).symm
   exact⟨jT,fun j t ht=>by
    have hm:t∈Tryz.f8.params.toList:=by simpa using Array.mem_of_getElem? ht
    exact(show Tryz.prog.wantsStandIn t=false by simpa using List.all_eq_true.1 Xm8 t hm)⟩)
  Xmh
#print axioms exactForms_card_holds
end
end Go.Proofs.YtknegjaeoffnbaaGreatDoor
