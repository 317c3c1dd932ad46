/- Steps of the proof of the theorem in the last file. -/
import Derived.Test.YtknegjaeoffnbaaGreatDoorP2
import Derived.Shelf.SlSortCmp.PdqK
import Derived.Ground.SlsfProg
import Derived.Test.YtknegjaeoffnbaaGreatDoorProg
import Derived.Sort.AssemblyPlain
import Derived.Shelf.SlSortCmp.NoneTotal
import Derived.RangeFuncLeaves
import Derived.RangeFuncSeq
import Derived.OwnWalkIn
import Derived.OrdersIn
import Derived.ChangeKeysEq
set_option linter.all false
set_option maxHeartbeats 4000000
namespace Go.Proofs.YtknegjaeoffnbaaGreatDoor
section
open Go.RowKit Ig
theorem SR {P:Program} {Q:Exit→Act→World→Prop} {N:Nat} {m:Sl} {w0:World} {F0:Gs} {bs:List (Nat×Obj)} {G H:Gs→Prop} {c:Code} (h:∀ F,G F→H F) (k:J P c Q N m ⟨w0,F0,bs,fun F=>G F∧H F⟩):J P c Q N m ⟨w0,F0,bs,G⟩ :=
 fun a w ha hw=>k a w ha (hw.Bb fun F h'=>⟨h',h F h'⟩)
variable {w0:World} {F0:Gs} {bs:List (Nat×Obj)} {G:Gs→Prop}
theorem Ul {ts:List XT} {l:List Tm} {m:Nat} {x:Fr} {f:Rat} {r:Sr} {p:List Int} (hI:K4 ts l) (hp:PW p) (hz:JO f≤40000000) (hl:ZV l≤40000000) (hG:∀ F,G F→JC F∧VY F ts∧JV F x f∧JL F r p) {t0:XT} {j:Nat} (ht:t0∈ts) (h0:t0.t.2=p) (hf:Zt (Wa ts) (Yf p) 0=some (j,U9 t0)) :
  J9 Tryz.prog 210 [.map (some m),x.v,r.v] ⟨w0,F0,(m,X5 tx (Wa ts))::bs,G⟩ (fun(_:XT)=>.tuple #[]) (fun n=>⟨w0,F0,(m,X5 tx (Wa (addN ts n)))::bs,fun F=>G F∧VY F (addN ts n)∧n.t=(f+Jf (JG ts) p,p)⟩):=by
 have hc0:Jf (JG ts) p=t0.t.1:=by rw [← h0];exact hI.UO.Bv (List.mem_map_of_mem (f:=XT.t) ht)
 have hz0:=hI.sz ht
 dsimp only [Sr.v,Fr.v]
 refine J9.intro Tryz.func210 rfl (by rfl) rfl rfl<|SR hG<|J_sr<|Q5 rfl (vs:=[_,_,_,_]) rfl (fun b4=>JS_nt<|J_sr<|JS_mv rfl<|QH rfl (fun w F hF h9=>OH hF h9.2.1 (r:=r) h9.2.2.2.2 (hp)) (fun _=>JS_as rfl<|JS_nt<|QG<|J_sr<|JS_mv rfl<|JS_mv rfl<|QA (S9 R3 rfl rfl NB (.there .here) hf)<|JS_mv rfl<|QA (QK rfl rfl)<|QA (QK rfl rfl)<|Qf Zb (fun b7=>QQ (vs:=[_,_,_,_,_]) rfl rfl rfl JZ rfl .here (.here (.here (.here (.here (.here .nil))))) ⟨rfl,rfl,rfl,rfl,rfl,trivial⟩ ?_)))
 refine JS_as rfl<|JS_nt<|J_sr<|JS_mv rfl<|QE<|QC ?_
 refine QP rfl (fun hc=>?_) (fun hc=>?_)
 ·
  refine QB<|QA (QL (vs:=[_,_,_,_]) rfl Qe (.there .here) (.here (.here (.here (.here .nil)))) rfl)<|QA (QI rfl Zm Qe)<|QA (QL (vs:=[_,_,_,_]) rfl Qe .here (.here (.here (.here (.here .nil)))) rfl)<|QH rfl (fun w F hF ⟨⟨hG0,hGl,hT,⟨hxn,hxd⟩,hR⟩,_⟩=>EZ hF ⟨by assumption,by assumption⟩ ((hT t0 ht).1) (by omega) (by omega)) (fun x21=>QQ (vs:=[_,_,_,_]) rfl rfl rfl Qe rfl (.there .here) (.here (.here (.here (.here .nil)))) ⟨rfl,rfl,rfl,rfl,trivial⟩<|JS_nt<|QB<|JS_mv rfl<|JS_mv rfl<|QA (QL (vs:=[_,_,_,_]) rfl Qe (.there .here) (.here (.here (.here (.here .nil)))) rfl)<|JS_mv rfl<|QA (Q6 rfl M4 Zb (.cons (vs:=[_,_,_,_]) rfl rfl rfl (.here (.here (.here (.here .nil)))) (.cons (vs:=[_]) rfl rfl rfl (.skip (.skip (.skip (.skip (.here .nil))))) .nil)))<|Gm (k:=Yf p) (v:=U9 ⟨x21,r,(f+t0.t.1,p)⟩) R3 rfl rfl rfl NB (.there (.there .here))<|QE<|Dk ?_)
  exact Yt (⟨x21,r,(f+t0.t.1,p)⟩) rfl .nil (rfl) (fun w h=>by
   show St ⟨w0,F0,(m,X5 tx (Wa (addN ts ⟨x21,r,(f+t0.t.1,p)⟩)))::bs,_⟩ w
   rw [NH]
   exact St.imp h (.cons _ (.cons _ subl_r)) (fun F ⟨⟨⟨hG0,hGl,hT,⟨hxn,hxd⟩,hR⟩,_⟩,⟨h21,h21_⟩⟩=>⟨hG0,fun t ht=>by
    rcases ND ht with rfl | ht
    ·exact⟨⟨by assumption,by assumption⟩,hR⟩
    ·exact hT t ht,by rw [hc0]⟩))
 ·exact absurd hc (by cases hc)
theorem Sm {ts:List XT} {l:List Tm} {m:Nat} {x:Fr} {f:Rat} {r:Sr} {p:List Int} (hI:K4 ts l) (hp:PW p) (hz:JO f≤40000000) (hl:ZV l≤40000000) (hG:∀ F,G F→JC F∧VY F ts∧JV F x f∧JL F r p) (hf:Zt (Wa ts) (Yf p) 0=none) (hm:p∉(JG ts).map (·.2)) :
  J9 Tryz.prog 210 [.map (some m),x.v,r.v] ⟨w0,F0,(m,X5 tx (Wa ts))::bs,G⟩ (fun(_:XT)=>.tuple #[]) (fun n=>⟨w0,F0,(m,X5 tx (Wa (addN ts n)))::bs,fun F=>G F∧VY F (addN ts n)∧n.t=(f+Jf (JG ts) p,p)⟩):=by
 have hc0:Jf (JG ts) p=0:=RC hm
 dsimp only [Sr.v,Fr.v]
 refine J9.intro Tryz.func210 rfl (by rfl) rfl rfl<|SR hG<|J_sr<|Q5 rfl (vs:=[_,_,_,_]) rfl (fun b4=>JS_nt<|J_sr<|JS_mv rfl<|QH rfl (fun w F hF h9=>OH hF h9.2.1 (r:=r) h9.2.2.2.2 (hp)) (fun _=>JS_as rfl<|JS_nt<|QG<|J_sr<|JS_mv rfl<|JS_mv rfl<|QA (Pb R3 rfl rfl NB Co (.there .here) hf)<|JS_mv rfl<|QA (QK rfl rfl)<|QA (QK rfl rfl)<|Qf Zb (fun b7=>QQ (vs:=[_,_,_,_,_]) rfl rfl rfl JZ rfl .here (.here (.here (.here (.here (.here .nil))))) ⟨rfl,rfl,rfl,rfl,rfl,trivial⟩ ?_)))
 refine JS_as rfl<|JS_nt<|J_sr<|JS_mv rfl<|QE<|QC ?_
 refine QP rfl (fun hc=>?_) (fun hc=>?_)
 ·exact absurd hc (by cases hc)
 ·
  refine QO<|QC<|QB<|JS_mv rfl<|JS_mv rfl<|QA (QL (vs:=[_,_,_,_]) rfl Qe (.there .here) (.here (.here (.here (.here .nil)))) rfl)<|JS_mv rfl<|QA (Q6 rfl M4 Zb (.cons (vs:=[_,_,_,_]) rfl rfl rfl (.here (.here (.here (.here .nil)))) (.cons (vs:=[_]) rfl rfl rfl (.skip (.skip (.skip (.skip (.here .nil))))) .nil)))<|Gm (k:=Yf p) (v:=U9 ⟨x,r,(f,p)⟩) R3 rfl rfl rfl NB (.there (.there .here))<|QE<|Dk ?_
  exact Yt (⟨x,r,(f,p)⟩) rfl .nil (rfl) (fun w h=>by
   show St ⟨w0,F0,(m,X5 tx (Wa (addN ts ⟨x,r,(f,p)⟩)))::bs,_⟩ w
   rw [NH]
   exact St.imp h (.cons _ (.cons _ subl_r)) (fun F ⟨⟨hG0,hGl,hT,⟨hxn,hxd⟩,hR⟩,_⟩=>⟨hG0,fun t ht=>by
    rcases ND ht with rfl | ht
    ·exact⟨⟨by assumption,by assumption⟩,hR⟩
    ·exact hT t ht,by rw [hc0,Rat.add_zero]⟩))
theorem BI {ts:List XT} {l:List Tm} {m:Nat} {x:Fr} {f:Rat} {r:Sr} {p:List Int} (hI:K4 ts l) (hp:PW p) (hz:JO f≤40000000) (hl:ZV l≤40000000) (hG:∀ F,G F→JC F∧VY F ts∧JV F x f∧JL F r p) :
  J9 Tryz.prog 210 [.map (some m),x.v,r.v] ⟨w0,F0,(m,X5 tx (Wa ts))::bs,G⟩ (fun(_:XT)=>.tuple #[]) (fun n=>⟨w0,F0,(m,X5 tx (Wa (addN ts n)))::bs,fun F=>G F∧VY F (addN ts n)∧n.t=(f+Jf (JG ts) p,p)⟩):=by
 rcases xT ts p 0 with ⟨h1,h2⟩ | ⟨j,t,ht,h1,h2⟩
 ·exact Sm hI hp hz hl hG h1 h2
 ·exact Ul hI hp hz hl hG ht h1 h2
end
section
open Go.RowKit Ig
variable [Dr]
theorem qI {w:World} {F:Gs} {a b:XT} (hF:Fits F w) (hA:SY F a) (hB:SY F b) (pa:PW a.t.2) (pb:PW b.t.2):Qc Tryz.prog 253 [U9 a,U9 b] w F (.int .i64 (K8 a.t.2 b.t.2)):=by
 refine QT.intro (G:=fun F=>SY F a∧SY F b) Tryz.func253 rfl (by rfl) rfl rfl hF (fun F' hF'=>⟨hA.le hF',hB.le hF'⟩)<|J_sr<|Q5 rfl (vs:=[_,_,_,_,_]) rfl (fun b2=>Q5 rfl (vs:=[_,_,_,_,_]) rfl (fun b3=>JS_as rfl<|JS_nt<|J_sr<|QA (QI rfl X1 Qv)<|QA (Qo rfl Qv (.there .here) (.skip (.skip (.skip (.skip (.here .nil))))))<|QA (QI rfl X1 Qv)<|QA (Qo rfl Qv .here (.skip (.skip (.skip (.skip (.here .nil))))))<|QH rfl (fun w F hF h9=>Hm hF (ra:=a.r) (rb:=b.r) h9.1.2 (h9.2.2) (pa) (pb)) (fun _=>JS_as rfl<|JS_nt<|QS ?_)))
 exact F_r1 rfl rfl (rfl) (fun F h9=>trivial)
end
end Go.Proofs.YtknegjaeoffnbaaGreatDoor
namespace Go.Proofs
open Go.Shelf
def Tryz.F3:Go.Shelf.Ren:=⟨fun | 14=>213 | 20=>257 | 21=>258 | 22=>259 | 23=>260 | 24=>261 | 25=>262 | 26=>263 | 27=>264 | 46=>290 | 47=>291 | 48=>292 | 49=>293 | 50=>294 | 15=>214 | 57=>311 | 28=>265 | 29=>266 | n=>n,fun | 24=>165 | 22=>156 | 3=>3 | 25=>168 | 4=>4 | 0=>0 | 46=>263 | 45=>262 | 50=>85 | 66=>290 | 39=>232 | 55=>248 | 70=>294 | 76=>308 | 77=>309 | 53=>269 | 5=>5 | 9=>9 | n=>n,fun | n=>n⟩
theorem Tryz.j8:Go.Proofs.SlLaysF0.n14 Tryz.prog Tryz.F3:={
 mixed:=by kernel_rfl
 f14:=⟨Tryz.f213.name,by decide,Tryz.func213.trans (congrArg some (by kernel_rfl))⟩
 f15:=Tryz.func214.trans (congrArg some (by kernel_rfl))
 f20:=⟨Tryz.f257.name,by decide,Tryz.func257.trans (congrArg some (by kernel_rfl))⟩
 f21:=⟨Tryz.f258.name,by decide,Tryz.func258.trans (congrArg some (by kernel_rfl))⟩
 f22:=⟨Tryz.f259.name,by decide,Tryz.func259.trans (congrArg some (by kernel_rfl))⟩
 f23:=⟨Tryz.f260.name,by decide,Tryz.func260.trans (congrArg some (by kernel_rfl))⟩
 f24:=⟨Tryz.f261.name,by decide,Tryz.func261.trans (congrArg some (by kernel_rfl))⟩
 f25:=⟨Tryz.f262.name,by decide,Tryz.func262.trans (congrArg some (by kernel_rfl))⟩
 f26:=⟨Tryz.f263.name,by decide,Tryz.func263.trans (congrArg some (by kernel_rfl))⟩
 f27:=⟨Tryz.f264.name,by decide,Tryz.func264.trans (congrArg some (by kernel_rfl))⟩
 f28:=Tryz.func265.trans (congrArg some (by kernel_rfl))
 f29:=Tryz.func266.trans (congrArg some (by kernel_rfl))
 f46:=⟨Tryz.f290.name,by decide,Tryz.func290.trans (congrArg some (by kernel_rfl))⟩
 f47:=Tryz.func291.trans (congrArg some (by kernel_rfl))
 f48:=Tryz.func292.trans (congrArg some (by kernel_rfl))
 f49:=⟨Tryz.f293.name,by decide,Tryz.func293.trans (congrArg some (by kernel_rfl))⟩
 f50:=⟨Tryz.f294.name,by decide,Tryz.func294.trans (congrArg some (by kernel_rfl))⟩
 f57:=⟨Tryz.f311.name,by decide,Tryz.func311.trans (congrArg some (by kernel_rfl))⟩
 t0:=Tryz.underlying0
 a0:=Tryz.isAgg0
 z0:=Tryz.sizeOf0
 v0:=Tryz.zeroValue0
 t3:=Tryz.underlying3
 a3:=Tryz.isAgg3
 z3:=Tryz.sizeOf3
 v3:=Tryz.zeroValue3
 t4:=Tryz.underlying4
 a4:=Tryz.isAgg4
 z4:=Tryz.sizeOf4
 v4:=Tryz.zeroValue4
 t5:=Tryz.underlying5
 a5:=Tryz.isAgg5
 z5:=Tryz.sizeOf5
 v5:=Tryz.zeroValue5
 t9:=Tryz.underlying9
 a9:=Tryz.isAgg9
 z9:=Tryz.sizeOf9
 v9:=Tryz.zeroValue9
 t22:=Tryz.underlying156
 a22:=Tryz.isAgg156
 z22:=Tryz.sizeOf156
 v22:=Tryz.zeroValue156
 t25:=Tryz.underlying168
 a25:=Tryz.isAgg168
 z25:=Tryz.sizeOf168
 v25:=Tryz.zeroValue168
 t39:=Tryz.underlying232
 a39:=Tryz.isAgg232
 z39:=Tryz.sizeOf232
 v39:=Tryz.zeroValue232
 t45:=Tryz.underlying262
 a45:=Tryz.isAgg262
 z45:=Tryz.sizeOf262
 v45:=Tryz.zeroValue262
 t46:=Tryz.underlying263
 a46:=Tryz.isAgg263
 z46:=Tryz.sizeOf263
 v46:=Tryz.zeroValue263
 t50:=Tryz.underlying85
 a50:=Tryz.isAgg85
 z50:=Tryz.sizeOf85
 v50:=Tryz.zeroValue85
 t53:=Tryz.underlying269
 a53:=Tryz.isAgg269
 z53:=Tryz.sizeOf269
 v53:=Tryz.zeroValue269
 t55:=Tryz.underlying248
 a55:=Tryz.isAgg248
 z55:=Tryz.sizeOf248
 v55:=Tryz.zeroValue248
 t66:=Tryz.underlying290
 a66:=Tryz.isAgg290
 z66:=Tryz.sizeOf290
 v66:=Tryz.zeroValue290
 t70:=Tryz.underlying294
 a70:=Tryz.isAgg294
 z70:=Tryz.sizeOf294
 v70:=Tryz.zeroValue294
 t76:=Tryz.underlying308
 a76:=Tryz.isAgg308
 z76:=Tryz.sizeOf308
 v76:=Tryz.zeroValue308
 t77:=Tryz.underlying309
 a77:=Tryz.isAgg309
 z77:=Tryz.sizeOf309
 v77:=Tryz.zeroValue309 }
end Go.Proofs
namespace Go.Proofs.YtknegjaeoffnbaaGreatDoor
section
open Go.RowKit Ig Go.Sort
def uT:XT:=⟨⟨⟨0,none,0,0⟩,⟨1,none,0,0⟩⟩,⟨none,0,0⟩,(0,[])⟩
theorem vg (F:Gs):SY F uT:=⟨⟨Jq.small F (by decide) (by decide),Jq.small F (by decide) (by decide)⟩,⟨by simp [Q4,uT],rfl,Nat.le_refl _⟩⟩
theorem PW.nil:PW []:=⟨fun _ h=>(by cases h),by simp⟩
abbrev ja (F:Gs):={t:XT // SY F t∧PW t.t.2}
instance (F:Gs):Inhabited (ja F):=⟨⟨uT,vg F,PW.nil⟩⟩
def Gw (F:Gs):ja F→List Value:=fun t=>YY t.1
def kV (F:Gs):ja F→ja F→Int:=fun x y=>K8 x.1.t.2 y.1.t.2
theorem dp {F:Gs} (x y:ja F):ltOf (kV F) x y=before x.1.t.2 y.1.t.2:=(Kx _ _).symm
theorem PE {a b c:List Int} (h:before a b=false) (k:before b c=false):before a c=false:=by
 cases hb:before a c with
 |false=>rfl
 |true =>
  rcases Y8 b c with e | e | e
  ·subst e;rw [h] at hb;cases hb
  ·rw [k] at e;cases e
  ·rw [before_trans hb e] at h;cases h
theorem vA (F:Gs):SWO (ltOf (kV F)) where
 irrefl:=fun x=>by rw [dp];exact before_irrefl _
 trans:=fun x y z h k=>by rw [dp] at h k ⊢;exact before_trans h k
 ntrans:=fun x y z h k=>by rw [dp] at h k ⊢;exact PE h k
def F8 (w:World) (F:Gs) (W:World):Gs:=fun b=>if b<w.heap.size then F b else match W.heap[b]? with | some (.cells c T _)=>if T=248 then some (c,248) else none | _=>none
theorem Vz {w W:World} {F:Gs} {b:Nat} (h:b<w.heap.size):F8 w F W b=F b:=if_pos h
theorem A6 {w W:World} {F:Gs} (hF:Fits F w):Gs.le F (F8 w F W):=fun b x hb=>by rw [Vz (hF.lt hb)];exact hb
theorem Pm {w W:World} {F:Gs} {Bw:Nat} {c':Array Value} {T:TypeId} {fr':Nat×Nat} (hF:Fits F w) (hn:F Bw=none) (hT:T≠248) (h1:∀ b,b<w.heap.size→b≠Bw→W.heap[b]?=w.heap[b]?) (h2:W.heap[Bw]?=some (.cells c' T fr')):Fits (F8 w F W) W:=by
 refine⟨fun b c T hb=>?_,fun b c fr hb=>?_⟩
 ·by_cases hlt:b<w.heap.size
  ·rw [Vz hlt] at hb
   obtain ⟨fr,e⟩:=hF.row b c T hb
   have hne:b≠Bw:=by rintro rfl;rw [hn] at hb;cases hb
   exact⟨fr,by rw [h1 b hlt hne];exact e⟩
  ·unfold F8 at hb
   rw [if_neg hlt] at hb
   split at hb
   ·rename_i c' T' fr heq
    split at hb
    ·rename_i hT;cases hb;exact⟨fr,by rw [heq,hT]⟩
    ·cases hb
   ·cases hb
 ·by_cases hlt:b<w.heap.size
  ·rw [Vz hlt]
   by_cases hne:b=Bw
   ·subst hne;rw [h2] at hb;cases hb;exact absurd rfl hT
   ·rw [h1 b hlt hne] at hb;exact hF.all b c fr hb
  ·unfold F8
   rw [if_neg hlt,hb];simp
theorem jA {w w':World} (h1:Below w.heap.size w w') (h2:w.drawn≤w'.drawn):w'=grow (w.drewN (w'.drawn - w.drawn)) (w'.heap.extract w.heap.size w'.heap.size):=by
 have hh:w'.heap=w.heap++w'.heap.extract w.heap.size w'.heap.size:=by
  apply Array.ext_getElem?
  intro i
  rw [Array.getElem?_append]
  split
  ·rename_i h;exact h1.block i h
  ·rename_i h
   rw [Array.getElem?_extract]
   have:=h1.size
   by_cases g:i<w'.heap.size
   ·rw [if_pos (by omega)];congr 1;omega
   ·rw [if_neg (by omega),Array.getElem?_eq_none (by omega)]
 obtain ⟨e1,e2,e3,_,_⟩:=h1
 cases w' with
 |mk heap tape drawn os output =>
  simp only at hh e1 e2 e3 h2
  unfold grow World.drewN
  simp only [World.mk.injEq]
  exact⟨hh,e2,by omega,e1,e3⟩
section
variable {α:Type} [Inhabited α] {enc:α→List Value} {k:Nat} {w:World} {Bw m:Nat} {dk:Array α} {os:Array Obj} {c:Array Value} {T:TypeId} {fr:Nat×Nat}
theorem BG (b:Nat) (hb:b<w.heap.size) (hne:b≠Bw):(sortWorldK enc k w Bw 0 m dk os).heap[b]?=w.heap[b]?:=by
 show((w.heap.modify Bw _)++os)[b]?=_
 rw [Array.getElem?_append,if_pos (by simpa using hb),Array.getElem?_modify,if_neg (Ne.symm hne)]
theorem Lg (h:w.heap[Bw]?=some (.cells c T fr)):(sortWorldK enc k w Bw 0 m dk os).heap[Bw]?=some (.cells (putCells id 0 (flatK enc k dk) c) T fr):=by
 have hb:Bw<w.heap.size:=by
  rcases Nat.lt_or_ge Bw w.heap.size with g | g
  ·exact g
  ·rw [Array.getElem?_eq_none g] at h;cases h
 show((w.heap.modify Bw _)++os)[Bw]?=_
 rw [Array.getElem?_append,if_pos (by simpa using hb),Array.getElem?_modify,if_pos rfl,h]
 rfl
theorem AO (hk:∀ x,(enc x).length=k) (d:Array α):flatK enc k d=(d.toList.flatMap enc).toArray:=by
 have hl:(d.toList.flatMap enc).length=d.size*k:=by
  generalize hd:d.toList=l
  have:d.size=l.length:=by rw [← hd];simp
  rw [this]
  clear this hd
  induction l with
  |nil=>simp
  |cons x l ih=>rw [List.flatMap_cons,List.length_append,ih,hk,List.length_cons,Nat.add_mul];omega
 apply Array.ext_getElem?
 intro t
 by_cases ht:t<d.size*k
 ·have hk0:0<k:=Nat.pos_of_ne_zero fun e=>by rw [e] at ht;simp at ht
  have h1:t / k<d.size:=(Nat.div_lt_iff_lt_mul hk0).2 ht
  have h2:t%k<k:=Nat.mod_lt _ hk0
  have h3:t%k<(enc d[t / k]!).length:=by rw [hk];exact h2
  have e1:(flatK enc k d)[t]?=some ((enc d[t / k]!)[t%k]!):=by
   rw [Array.getElem?_eq_getElem (by rw [size_flatK];exact ht)]
   have:=get_flatK enc k d t ht
   rw [getElem!_pos _ t (by rw [size_flatK];exact ht)] at this
   rw [this]
  rw [e1,List.getElem?_toArray]
  have h4:el d.toList (t / k)=d[t / k]!:=by simp [el,h1]
  have:=J2 (f:=enc) hk (l:=d.toList) (i:=t / k) (j:=t%k) (u:=(enc d[t / k]!)[t%k]!) (by simpa using h1) (by rw [h4,List.getElem?_eq_getElem h3,getElem!_pos (enc d[t / k]!) (t%k) h3])
  rw [Nat.mul_comm,Nat.div_add_mod] at this
  exact this.symm
 ·rw [Array.getElem?_eq_none (by rw [size_flatK];omega),List.getElem?_toArray,List.getElem?_eq_none (by omega)]
theorem Rg {a b rest:List Value} (h:b.length=a.length):putCells id 0 b.toArray (a++rest).toArray=(b++rest).toArray:=by
 apply Array.ext_getElem?
 intro i
 unfold putCells
 rw [Array.getElem?_mapIdx,List.getElem?_toArray,List.getElem?_toArray,List.getElem?_append,List.getElem?_append]
 by_cases hi:i<a.length
 ·have hi':i<b.length:=by omega
  rw [if_pos hi,if_pos hi',List.getElem?_eq_getElem hi,List.getElem?_eq_getElem hi']
  simp [hi']
 ·have hi':¬ i<b.length:=by omega
  rw [if_neg hi,if_neg hi',h]
  have e:¬ (0≤i∧i<0+b.toArray.size):=by simp;omega
  cases rest[i - a.length]? with
  |none=>rfl
  |some x=>simp only [Option.map_some];rw [if_neg e]
end
def Ah (g:FuncId):Prop:=Enters Tryz.prog g∧∀ (w:World) (F:Gs) (a b:XT),Fits F w→SY F a→SY F b→PW a.t.2→PW b.t.2→@QT ⟨True⟩ Tryz.prog g [U9 a,U9 b] w F Unit (fun _=>.int .i64 (K8 a.t.2 b.t.2)) (fun _ _=>True)
theorem Ah.lays {g:FuncId} (hg:Ah g) {w:World} {F:Gs} {Bw size:Nat} {c:Array Value} {T:TypeId} {fr:Nat×Nat} (hF:Fits F w) (hn:F Bw=none) (hT:T≠248) (hb:w.heap[Bw]?=some (.cells c T fr)):CmpLays Tryz.prog g #[] (Gw F) 5 (kV F) Bw 0 size w:=fun m os dk _ x y=>by
 have hf:=Pm (W:=sortWorldK (Gw F) 5 w Bw 0 m dk os) hF hn hT (fun b h1 h2=>BG b h1 h2) (Lg hb)
 have hle:=A6 (W:=sortWorldK (Gw F) 5 w Bw 0 m dk os) hF
 have:=(hg.2 _ _ x.1 y.1 hf (x.2.1.le hle) (y.2.1.le hle) x.2.2 y.2.2).2
 refine this.mono ?_
 rintro e w' ⟨_,F',rfl,hx,_⟩
 exact⟨rfl,_,_,jA (@PI.toBelow ⟨True⟩ _ _ hx) (@PI.dr ⟨True⟩ _ _ hx trivial)⟩
theorem uR {F:Gs} (x:ja F):∀ v∈Gw F x,v.oneCell'=true:=by
 intro v hv
 unfold Gw YY at hv
 simp only [List.mem_cons,List.not_mem_nil,or_false] at hv
 rcases hv with rfl | rfl | rfl | rfl | rfl<;>rfl
variable [Dr] {w0:World} {F0:Gs} {bs:List (Nat×Obj)} {G:Gs→Prop}
theorem vZ {g:FuncId} (hg:Ah g) {b n cap lim:Nat} {ts:List XT} {rest:List Value} (hG:∀ F,G F→VY F ts) (hp:∀ t∈ts,PW t.t.2) (hl:ts.length=n) (hn:n<4611686018427387904) (hlim:lim<4611686018427387904) :
  J9 Tryz.prog 213 [.slice (some ⟨b,0,none⟩) n cap,.int .i64 0,.int .i64 (n:Nat),.int .i64 (lim:Nat),.func (.func g) #[] #[]] ⟨w0,F0,(b,.cells (ts.flatMap YY++rest).toArray 165 (0,0))::bs,G⟩ (fun(_:List XT)=>.tuple #[])
   (fun ts'=>⟨w0,F0,(b,.cells (ts'.flatMap YY++rest).toArray 165 (0,0))::bs,fun F=>G F∧ts'.Perm ts∧ts'.Pairwise (fun x y=>before y.t.2 x.t.2=false)⟩):=by
 refine⟨enters_of Tryz.func213 (by rfl) rfl,fun w hw=>?_⟩
 obtain ⟨F,h⟩:=hw
 obtain ⟨hb1,hb2,hb3⟩:=h.bx (b,_) List.mem_cons_self
 have hts:=hG F h.hG
 have hblt:b<w.heap.size:=(Array.getElem?_eq_some_iff.1 hb1).1
 have hT:(165:TypeId)≠248:=by decide
 obtain ⟨d,hd⟩:∃ d:Array (ja F),d.toList.map (·.1)=ts:=by
  refine⟨(ts.attach.map fun t=>(⟨t.1,hts t.1 t.2,hp t.1 t.2⟩:ja F)).toArray,?_⟩
  simp [List.map_map,Function.comp_def]
 have hds:d.size=n:=by rw [← hl,← hd];simp
 have hfl:∀ d:Array (ja F),flatK (Gw F) 5 d=((d.toList.map (·.1)).flatMap YY).toArray:=fun d=>by
  rw [AO (enc:=Gw F) (k:=5) (fun _=>rfl),List.flatMap_map];rfl
 have hH:HoldsK (Gw F) 5 w b 0 d:=by
  intro j hj
  rw [hfl,hd] at hj ⊢
  have hj':j<(ts.flatMap YY).length:=by simpa using hj
  rw [Nat.zero_add]
  refine⟨?_,by simp [World.frozen?,hb1]⟩
  simp only [World.cell?,hb1,Option.isSome_none,Bool.false_eq_true,if_false,List.getElem?_toArray]
  rw [List.getElem?_append_left hj',List.getElem?_eq_getElem hj']
  show some _=some ((ts.flatMap YY).toArray[j]!)
  rw [getElem!_pos (ts.flatMap YY).toArray j (by simpa using hj')]
  simp
 have hR:RowK (Gw F) 5 w b 0 d:=⟨fun _=>rfl,fun x=>uR x,hH,hblt⟩
 have eg:=hg.1
 have hcmp:=hg.lays (size:=d.size) h.fits hb3 hT hb1
 have hs:=AnyQ.pdqsortCmpFunc_all Tryz.j8 5 (RM JZ) (Zo JZ) (Gw F) (kV F) g #[] (vA F) b 0 cap d w eg hcmp hR (d.size+1) 0 d.size lim d w (by omega) rfl (SWK.start hH) (Nat.zero_le _) (Nat.le_refl _) (by omega) hlim (Or.inl rfl)
 have hpl:=pdq_sorts (ltOf (kV F)) (vA F) d 0 d.size lim true true (Nat.zero_le _) (Nat.le_refl _) (Or.inl rfl)
 generalize pdq (ltOf (kV F)) d 0 d.size lim true true=d' at hs hpl
 obtain ⟨⟨hp1,_,hp2⟩,hso⟩:=hpl
 rw [hds] at hs
 refine hs.mono ?_
 rintro e w' ⟨rfl,m,os,rfl⟩
 have hbk:=Lg (enc:=Gw F) (k:=5) (m:=m) (dk:=d') (os:=os) hb1
 have hfit:=Pm (W:=sortWorldK (Gw F) 5 w b 0 m d' os) h.fits hb3 hT (fun b h1 h2=>BG b h1 h2) hbk
 have hle:=A6 (W:=sortWorldK (Gw F) 5 w b 0 m d' os) h.fits
 have hperm:(d'.toList.map (·.1)).Perm ts:=by
  rw [← hd]
  refine List.Perm.map _ ?_
  have e1:(d'.extract 0 d.size).toList=d'.toList:=by rw [← hp1];simp
  have e2:(d.extract 0 d.size).toList=d.toList:=by simp
  rw [e1,e2] at hp2;exact hp2
 have hcells:putCells id 0 (flatK (Gw F) 5 d') (ts.flatMap YY++rest).toArray=((d'.toList.map (·.1)).flatMap YY++rest).toArray:=by
  rw [hfl]
  refine Rg ?_
  have:=(List.Perm.flatMap_right YY hperm).length_eq
  exact this
 rw [hcells] at hbk
 have hsz:w.heap.size≤(sortWorldK (Gw F) 5 w b 0 m d' os).heap.size:=by
  show _≤((w.heap.modify b _)++os).size
  simp
 refine⟨d'.toList.map (·.1),rfl,F8 w F (sortWorldK (Gw F) 5 w b 0 m d' os),?_⟩
 refine⟨Gs.le_trans h.le hle,fun k hk=>?_,hfit,⟨⟨?_,?_,?_,?_,?_⟩,?_⟩,fun k hk=>?_,h.nd,fun F' hF'=>⟨h.g F' (Gs.le_trans hle hF'),hperm,?_⟩⟩
 ·have:k<w.heap.size:=Nat.lt_of_lt_of_le hk h.ext.size
  rw [Vz this];exact h.old k hk
 ·exact h.ext.os
 ·exact h.ext.tape
 ·exact h.ext.output
 ·exact Nat.le_trans h.ext.size hsz
 ·intro k hk
  have h1:k<w.heap.size:=Nat.lt_of_lt_of_le hk h.ext.size
  have h2:k≠b:=by rintro rfl;exact absurd hk (Nat.not_lt.2 hb2)
  rw [BG k h1 h2];exact h.ext.block k hk
 ·intro hd
  exact Nat.le_trans (h.ext.dr hd) (Nat.le_add_right _ _)
 ·rcases List.mem_cons.1 hk with rfl | hk
  ·exact⟨hbk,hb2,by rw [Vz hblt];exact hb3⟩
  ·obtain ⟨g1,g2,g3⟩:=h.bx k (List.mem_cons_of_mem _ hk)
   have h1:k.1<w.heap.size:=(Array.getElem?_eq_some_iff.1 g1).1
   have h2:k.1≠b:=by
    have:=h.nd
    simp only [List.map_cons] at this
    have:=(List.nodup_cons.1 this).1
    rintro e
    exact this (e ▸ List.mem_map_of_mem (f:=(·.1)) hk)
   exact⟨by rw [BG k.1 h1 h2];exact g1,g2,by rw [Vz h1];exact g3⟩
 ·rw [List.pairwise_map,List.pairwise_iff_getElem]
  intro i j hi hj hij
  have hi':i<d'.size:=by simpa using hi
  have hj':j<d'.size:=by simpa using hj
  have:=hso i j (Nat.zero_le _) hij (by omega)
  rw [dp,getElem!_pos _ i hi',getElem!_pos _ j hj'] at this
  simpa using this
end
section
open Go.RowKit Ig
section
variable [Dr] {w0:World} {F0:Gs} {bs:List (Nat×Obj)} {G:Gs→Prop}
theorem Im {w:World} {F:Gs} (hF:Fits F w) {n:Nat} (h:n<4611686018427387904):Qc Tryz.prog 214 [.int .u64 (n:Nat)] w F (.int .i64 (Lib.bitLen n:Nat)) :=
 QT.same (enters_of Tryz.func214 (by rfl) rfl) hF (by
  have:=Tryz.bits_Len (n:Nat) w (by omega) (by omega)
  rwa [Int.toNat_natCast] at this)
theorem Ov:∀ {ts:List XT},ts.flatMap YY=[]→ts=[]
 |[],_=>rfl
 |t::l,h=>by rw [List.flatMap_cons] at h;simp [YY] at h
theorem zL {g:FuncId} (hg:Ah g) {n lim:Nat} {v:Value} {ts:List XT} {ob:List (Nat×Obj)} (hr:Qz 165 5 v n (ts.flatMap YY) ob) (hG:∀ F,G F→VY F ts) (hp:∀ t∈ts,PW t.t.2) (hl:ts.length=n) (hn:n<4611686018427387904) (hlim:lim<4611686018427387904) :
  J9 Tryz.prog 213 [v,.int .i64 0,.int .i64 (n:Nat),.int .i64 (lim:Nat),.func (.func g) #[] #[]] ⟨w0,F0,ob++bs,G⟩ (fun(_:List XT×List (Nat×Obj))=>.tuple #[])
   (fun c=>⟨w0,F0,c.2++bs,fun F=>G F∧Qz 165 5 v n (c.1.flatMap YY) c.2∧c.1.Perm ts∧c.1.Pairwise (fun x y=>before y.t.2 x.t.2=false)⟩):=by
 generalize hcs:ts.flatMap YY=cs at hr
 cases hr with
 |nil =>
  have:=Ov hcs
  subst this
  refine⟨enters_of Tryz.func213 (by rfl) rfl,fun w hw=>?_⟩
  refine(AnyF.pdqsortCmpFunc_none Tryz.j8 none 0 (lim:Nat) (.func (.func g) #[] #[]) w).mono ?_
  rintro e w' ⟨rfl,rfl⟩
  exact⟨([],[]),rfl,hw.Bb fun F h=>⟨h,.nil,List.Perm.refl _,List.Pairwise.nil⟩⟩
 |some h1 h2 h3 h4 =>
  rename_i b cap rest
  subst hcs
  have h:=vZ (w0:=w0) (F0:=F0) (bs:=bs) (G:=G) hg (b:=b) (n:=n) (cap:=cap) (lim:=lim) (ts:=ts) (rest:=rest) hG hp hl hn hlim
  refine⟨h.1,fun w hw=>(h.2 w hw).mono ?_⟩
  rintro e w' ⟨ts',rfl,hw'⟩
  refine⟨(ts',[(b,.cells (ts'.flatMap YY++rest).toArray 165 (0,0))]),rfl,hw'.Bb fun F ⟨hG',hpm,hpw⟩=>⟨hG',?_,hpm,hpw⟩⟩
  have hlen:(ts'.flatMap YY).length=(ts.flatMap YY).length:=(List.Perm.flatMap_right YY hpm).length_eq
  exact .some (by rw [hlen];exact h1) (by rw [hlen];exact h2) h3 h4
theorem Lj {g:FuncId} (hg:Ah g) {n:Nat} {v:Value} {ts:List XT} {ob:List (Nat×Obj)} (hr:Qz 165 5 v n (ts.flatMap YY) ob) (hG:∀ F,G F→VY F ts) (hp:∀ t∈ts,PW t.t.2) (hl:ts.length=n) (hn:n<4611686018427387904) :
  J9 Tryz.prog 134 [v,.func (.func g) #[] #[]] ⟨w0,F0,ob++bs,G⟩ (fun(_:List XT×List (Nat×Obj))=>.tuple #[])
   (fun c=>⟨w0,F0,c.2++bs,fun F=>G F∧Qz 165 5 v n (c.1.flatMap YY) c.2∧c.1.Perm ts∧c.1.Pairwise (fun x y=>before y.t.2 x.t.2=false)⟩):=by
 refine J9.intro Tryz.func134 rfl (by rfl) rfl rfl<|J_sr<|JS_mv rfl<|QA (TA rfl hr J1)<|JS_as rfl<|JS_nt<|QB<|JS_mv rfl<|JS_mv rfl<|JS_mv rfl<|QA (A0 rfl ko xL (by omega))<|QH rfl (fun w F hF _=>Im hF hn) (fun _=>JS_mv rfl<|XL rfl (List.Perm.refl _) (zL hg hr (fun F h=>hG F h.1) hp hl hn (Nat.lt_of_le_of_lt (Lib.bitLen_le n 62 (by omega) (by omega)) (by omega))) (fun c=>QE<|Dk ?_))
 exact Yt (c) rfl .nil (rfl) (fun w h=>h.Bb fun F h=>⟨h.1.1,h.2⟩)
end
end
section
open Go.RowKit Ig
theorem Gc:∀ (n:Nat) (l:List Nat),l.Nodup→(∀ j∈l,j<n)→l.length≤n
 |0,l,_,h=>by
  cases l with
  |nil=>exact Nat.le_refl _
  |cons x l=>exact absurd (h x List.mem_cons_self) (Nat.not_lt_zero _)
 |n+1,l,hn,h=>by
  have h1:=Gc n (l.erase n) (hn.erase n) fun j hj=>by
   have h2:=(hn.mem_erase_iff).1 hj
   have h3:=h j h2.2
   have h4:=h2.1
   omega
  rw [List.length_erase] at h1
  split at h1<;>omega
theorem PV {n j:Nat} {l:List Nat} (hn:l.Nodup) (h:∀ j∈l,j<n) (hj:j<n) (hjn:j∉l):(l++[j]).Nodup∧(∀ i∈l++[j],i<n)∧l.length<n:=by
 have h1:(l++[j]).Nodup:=by
  rw [List.nodup_append]
  exact⟨hn,by simp,fun a ha b hb=>by rw [List.mem_singleton.1 hb];rintro rfl;exact hjn ha⟩
 have h2:∀ i∈l++[j],i<n:=fun i hi=>by
  rcases List.mem_append.1 hi with hi | hi
  ·exact h i hi
  ·rw [List.mem_singleton.1 hi];exact hj
 have h3:=Gc n _ h1 h2
 rw [List.length_append] at h3
 exact⟨h1,h2,by simp at h3;omega⟩
theorem S1 {n:Nat} {l:List Nat} (hn:l.Nodup) (h:∀ j∈l,j<n) (ha:∀ j,j<n→j∈l):l.Perm (List.range n) :=
 (List.perm_ext_iff_of_nodup hn List.nodup_range).2 fun a=>by rw [List.mem_range];exact⟨h a,ha a⟩
theorem BX {α:Type} [Inhabited α] (l:List α):(List.range l.length).map (el l)=l:=by
 apply List.ext_getElem?
 intro i
 by_cases h:i<l.length
 ·rw [List.getElem?_map,List.getElem?_range h,List.getElem?_eq_getElem h];simp [ZA h]
 ·rw [List.getElem?_eq_none (by simp;omega),List.getElem?_eq_none (by omega)]
def Jm (F:Gs) (s:Sr) (ts:List XT) (p:List Tm):Prop:=Q4 F s.q s.n 5 (ts.flatMap YY)∧VY F ts∧JG ts=p∧s.n≤s.cap∧ts.length=s.n
theorem Jm.le {F F':Gs} {s:Sr} {ts:List XT} {p:List Tm} (h:Jm F s ts p) (k:Gs.le F F'):Jm F' s ts p:=⟨h.1.le k,h.2.1.le k,h.2.2⟩
def A4 (ts:List XT):List XT:=ts.filter fun t=>decide (t.t.1≠0)
theorem TL (ts:List XT) (t:XT):A4 (ts++[t])=A4 ts++(if t.t.1≠0 then [t] else []):=by
 unfold A4;rw [List.filter_append];congr 1
 by_cases h:t.t.1=0
 ·simp [h]
 ·simp [h]
structure gk (ts:List XT) where
 seen:List Nat
 v:Value
 n:Nat
 ob:List (Nat×Obj)
 hr:Qz 165 5 v n ((A4 (seen.map (el ts))).flatMap YY) ob
 nd:seen.Nodup
 lt:∀ j∈seen,j<ts.length
 hn:(A4 (seen.map (el ts))).length=n
theorem FB (ts:List XT):(Wa ts).length=ts.length:=by simp [Wa]
theorem O5:Ah 253:=⟨enters_of Tryz.func253 (by rfl) rfl,fun w F a b hF hA hB pa pb=>@qI ⟨True⟩ w F a b hF hA hB pa pb⟩
theorem BN {r:Rat}:Nr r.num=0↔r=0:=by
 unfold Nr
 constructor
 ·intro h
  apply Rat.num_eq_zero.1
  split at h
  ·omega
  ·split at h<;>omega
 ·rintro rfl;rfl
theorem Lh {ts os:List XT} {l:List Tm} {seen:List Nat} (hI:K4 ts l) (hn:seen.Nodup) (hlt:∀ j∈seen,j<ts.length) (hall:∀ j,j<ts.length→j∈seen) (hp:os.Perm (A4 (seen.map (el ts)))) (hs:os.Pairwise fun x y=>before y.t.2 x.t.2=false):JG os=JQ l:=by
 have h1:os.Perm (A4 ts):=by
  refine hp.trans ?_
  unfold A4
  refine List.Perm.filter _ ?_
  have:=(S1 hn hlt hall).map (el ts)
  rwa [BX] at this
 have h2:(JG os).Perm ((JG ts).filter fun t=>decide (t.1≠0)):=by
  have:=h1.map XT.t
  unfold A4 at this
  have e:(ts.filter fun t=>decide (t.t.1≠0)).map XT.t=(ts.map XT.t).filter fun t=>decide (t.1≠0):=by
   rw [List.filter_map];rfl
  rw [e] at this;exact this
 refine hI.UO.norm h2 ?_
 have hnd:((JG os).map (·.2)).Nodup:=by
  have h3:((JG os).map (·.2)).Perm (((JG ts).filter fun t=>decide (t.1≠0)).map (·.2)):=h2.map _
  rw [h3.nodup_iff]
  exact(List.filter_sublist.map _).nodup hI.UO.nd
 unfold JG at hnd ⊢
 rw [List.pairwise_map]
 rw [List.map_map] at hnd
 have hnd2:=List.pairwise_map.1 hnd
 refine(hs.and hnd2).imp ?_
 rintro x y ⟨h1,h2⟩
 rcases Y8 x.t.2 y.t.2 with e | e | e
 ·exact absurd e h2
 ·exact e
 ·rw [h1] at e;cases e
theorem AF {ts:List XT} {seen:List Nat} (hlt:∀ j∈seen,j<ts.length) {t:XT} (h:t∈A4 (seen.map (el ts))):t∈ts:=by
 have:=(List.mem_filter.1 h).1
 obtain ⟨j,hj,e⟩:=List.mem_map.1 this
 rw [← e];exact JN (hlt j hj)
theorem OS {ts:List XT} {seen:List Nat} {j:Nat} {t:XT} (e:el ts j=t) (h:t.t.1≠0):A4 ((seen++[j]).map (el ts))=A4 (seen.map (el ts))++[t]:=by
 rw [List.map_append,List.map_cons,List.map_nil,e,TL,if_pos h]
theorem xD {ts:List XT} {seen:List Nat} {j:Nat} {t:XT} (e:el ts j=t) (h:t.t.1=0):A4 ((seen++[j]).map (el ts))=A4 (seen.map (el ts)):=by
 rw [List.map_append,List.map_cons,List.map_nil,e,TL,if_neg (not_not_intro h),List.append_nil]
theorem Rp (t:XT):∀ v∈YY t,v.oneCell'=true:=by
 intro v hv
 unfold YY at hv
 simp only [List.mem_cons,List.not_mem_nil,or_false] at hv
 rcases hv with rfl | rfl | rfl | rfl | rfl<;>rfl
section
variable {w0:World} {F0:Gs} {bs:List (Nat×Obj)} {G:Gs→Prop}
theorem GS {m:Nat} {ts:List XT} {l:List Tm} (hI:K4 ts l) (hlen:ts.length≤1000000000) (hG:∀ F,G F→VY F ts) :
  J9 Tryz.prog 211 [.map (some m)] ⟨w0,F0,(m,X5 tx (Wa ts))::bs,G⟩ (fun(c:Sr×List XT)=>c.1.v) (fun c=>⟨w0,F0,(m,X5 tx (Wa ts))::bs,fun F=>G F∧Jm F c.1 c.2 (JQ l)⟩):=by
 refine J9.intro Tryz.func211 rfl (by rfl) rfl rfl<|SR hG<|J_sr<|JS_as rfl<|JS_nt<|J_sr<|JS_as rfl<|JS_nt<|QG<|J_sr<|JS_mv rfl<|ET rfl NB .here (fun b7=>JS_nt<|QX<|Jw (ι:=gk ts) [(7,_)] (fun i=>[(3,i.v)]) (fun i=>(b7,FD m (Wa ts).length i.seen)::(m,X5 tx (Wa ts))::(i.ob++bs)) (fun i F=>True) (fun i=>ts.length - i.seen.length) (⟨[],_,0,[],.nil,List.nodup_nil,(fun _ h=>by cases h),rfl⟩) ⟨rfl,trivial⟩ ⟨rfl,trivial⟩ subl_r (fun _ _=>trivial) (fun i=>?_))
 simp only [List.cons_append,List.nil_append]
 have hn0:i.n≤i.seen.length:=by rw [← i.hn];exact Nat.le_trans (List.length_filter_le _ _) (by simp)
 refine J_sr<|Np (kv:=Wa ts) (K:=tx) (b:=m) rfl .here (.there .here) (fun x hx=>QA (QK rfl (xE x))<|JS_nt<|QG ?_)
 refine QP rfl (fun hc=>?_) (fun hc=>?_)
 ·
  obtain ⟨j,rfl⟩:∃ j,x=some j:=by
   cases x with
   |none=>cases hc
   |some j=>exact⟨j,rfl⟩
  obtain ⟨hj,hjn⟩:=hx
  rw [FB] at hj
  obtain ⟨hs1,hs2,hs3⟩:=PV i.nd i.lt hj hjn
  have htm:=JN hj
  have hkj:(Wa ts)[j]?=some (Yf (el ts j).t.2,U9 (el ts j)):=by rw [Wa,List.getElem?_map,List.getElem?_eq_getElem hj,ZA hj];rfl
  generalize hte:el ts j=t at htm hkj
  refine QO<|QC<|QX<|J_sr<|QA (Az (kv:=Wa ts) (K:=tx) (p:=(Yf t.t.2,U9 t)) rfl .here (.there .here) hkj)<|QA (QK rfl rfl)<|Qf Zb (fun b5=>QQ (vs:=[_,_,_,_,_]) rfl rfl rfl JZ rfl .here (.here (.here (.here (.here (.here .nil))))) ⟨rfl,rfl,rfl,rfl,rfl,trivial⟩<|JS_nt<|J_sr<|QA (QI rfl Zm Qe)<|QA (QL (vs:=[_,_,_,_]) rfl Qe .here (.here (.here (.here (.here .nil)))) rfl)<|QH rfl (fun w F hF h9=>Gf hF ((h9.1.2 t htm).1)) (fun _=>QA (QU rfl rfl rfl)<|QE<|QC ?_))
  refine QP rfl (fun hc=>?_) (fun hc=>?_)
  ·
   have hnz:t.t.1≠0:=fun e=>by rw [e] at hc;cases hc
   refine QB<|JS_mv rfl<|QA (QL (vs:=[_,_,_,_,_]) rfl JZ .here (.here (.here (.here (.here (.here .nil))))) rfl)<|QW rfl (Q7 J1) JZ Zb rfl rfl (fun b18=>X9 (bs':=(_::_::_::bs)++i.ob) (.cons _ (.cons _ (.cons _ List.perm_append_comm))) ?_)
   refine VT (ob:=i.ob) (k:=1) (sz:=5) (news:=YY t) rfl rfl J1 JZ Zb rfl Ac i.hr (Src.row (off:=0) (fun F h9=>h9.2) (fun j v hv=>by rw [Nat.zero_add];show((YY t).toArray)[j]?=some v;rw [List.getElem?_toArray];exact hv) rfl) (by omega) (by omega) (Rp t) (fun v19 ob19 hr19=>?_)
   refine X9 (bs':=_::_::_::(ob19++bs)) (.cons _ (.cons _ (.cons _ List.perm_append_comm)))<|JS_as rfl<|QE<|Qk ?_
   exact Ql (⟨i.seen++[j],v19,i.n+1,ob19,by rw [OS hte hnz,List.flatMap_append];simpa using hr19,hs1,hs2,by rw [OS hte hnz,List.length_append,i.hn];rfl⟩) (by show _ - (i.seen++[j]).length<_;rw [List.length_append];simp only [List.length_singleton];omega) ⟨rfl,rfl,trivial⟩ (.cons _ subl_r) (fun F h=>⟨h.1.1.1,trivial⟩)
  ·
   have hz:t.t.1=0:=BN.1 (by simpa using hc)
   refine QO<|Qk ?_
   exact Ql (⟨i.seen++[j],i.v,i.n,i.ob,by rw [xD hte hz];exact i.hr,hs1,hs2,by rw [xD hte hz];exact i.hn⟩) (by show _ - (i.seen++[j]).length<_;rw [List.length_append];simp only [List.length_singleton];omega) ⟨rfl,rfl,trivial⟩ (.cons _ subl_r) (fun F h=>⟨h.1.1,trivial⟩)
 ·
  obtain rfl:x=none:=by
   cases x with
   |none=>rfl
   |some j=>cases hc
  rw [show uS (Wa ts).length i.seen none=∀ j,j<(Wa ts).length→j∈i.seen from rfl,FB] at hx
  refine Qy ?_
  repeat (first | refine QZ ?_ | refine QV (by rfl) ?_)
  refine Qa<|QC<|J_sr<|JS_mv rfl<|XL rfl (List.perm_middle.trans (.cons _ List.perm_middle)).symm (Lj O5 i.hr (fun F ⟨⟨hG0,hT⟩,_⟩ t ht=>hT t (AF i.lt ht)) (fun t ht=>hI.pw t (AF i.lt ht)) i.hn (by have:=Gc _ _ i.nd i.lt;omega)) (fun c=>JH _ (fun w F hF h=>h.2) (fun hso=>?_))
  obtain ⟨r,hv,hrn,hrc,hfix⟩:=Qz.fix (w0:=w0) (F0:=F0) (bs1:=(b7,FD m (Wa ts).length (vf i.seen none))::(m,X5 tx (Wa ts))::bs) (G:=_) hso.1
  refine X9 List.perm_append_comm<|B4 hfix ?_
  rw [hv]
  refine JS_nt<|J_sr<|JS_mv rfl<|JS_as rfl<|JS_nt<|QS ?_
  exact Yt (⟨r,c.1⟩) rfl (.tmp rfl .nil) (rfl) (fun w h=>St.imp h (.cons _ subl_r) (fun F h9=>⟨h9.1.1.1.1,by rw [hrn];exact h9.2,fun t ht=>h9.1.1.1.2 t (AF i.lt (hso.2.1.mem_iff.1 ht)),Lh hI i.nd i.lt hx hso.2.1 hso.2.2,by rw [hrn];exact hrc,hso.2.1.length_eq.trans (i.hn.trans hrn.symm)⟩))
end
end
section
open Go.RowKit Ig
section
variable [Dr] [df:Df] {P:Program} {N:Nat} {m:Sl} {w0:World} {F0:Gs} {bs:List (Nat×Obj)} {G:Gs→Prop}
theorem C9 {T yT ty e:TypeId} {x y:Operand} {q:Option Addr} {n c:Nat} {Y:World→Prop} (hx:ev m x=some (.slice q n c)) (hy:ev m y=some (.slice none 0 0)) (hT:H2 P T=some e):Qt P N m Y (.binOp .eql T x y yT) ty (.bool q.isNone):=fun a w _ _ _ _ ha _=>by
 have:=Lib.run_eql_slice_nil (P:=P) w T e q n c 0 0 (Q7 hT)
 simp [execOp,ha.ev hx,ha.ev hy,eqGuard,this]
theorem Src.uH {sz k c:Nat} {a:Addr} {news:List Value} (hr:∀ F,G F→Q4 F (some a) k sz news) (hl:news.length=k*sz):Src ⟨w0,F0,bs,G⟩ sz (.slice (some a) k c) k news:=by
 refine⟨hl,.inr ⟨a,c,rfl,fun w hw j v hv=>?_⟩⟩
 have hk:0<k:=by
  rcases Nat.eq_zero_or_pos k with h | h
  ·rw [h,Nat.zero_mul] at hl;rw [List.length_eq_zero_iff.1 hl] at hv;simp at hv
  ·exact h
 obtain ⟨F,h⟩:=id hw
 obtain ⟨b,off,_,_,e,_,_⟩:=(hr F h.hG).2 hk
 cases e
 rw [Ke];exact Ky hw hr hk hv
theorem OQ {F:Gs} {n c:Nat} {l:List Int} (h:JL F ⟨none,n,c⟩ l):Qz 3 1 (.slice none 0 0) n (l.map Qx) []:=by
 obtain ⟨⟨_,h1⟩,h2,_⟩:=h
 have h0:n=0:=by
  rcases Nat.eq_zero_or_pos n with h | h
  ·exact h
  ·obtain ⟨_,_,_,_,e,_⟩:=h1 h;cases e
 subst h0
 rw [List.length_eq_zero_iff.1 h2];exact .nil
theorem q7 (l:List Int):∀ v∈l.map Qx,v.oneCell'=true:=by
 intro v hv
 obtain ⟨x,_,rfl⟩:=List.mem_map.1 hv
 rfl
end
section
variable {w0:World} {F0:Gs} {bs:List (Nat×Obj)} {G:Gs→Prop}
theorem SJ {r:Sr} {l:List Int} (hG:∀ F,G F→JL F r l) (hn:l.length=r.n) (hl:l.length≤1000000000) :
  J9 Tryz.prog 133 [r.v] ⟨w0,F0,bs,G⟩ (fun(c:Value×List (Nat×Obj))=>c.1) (fun c=>⟨w0,F0,bs++c.2,fun F=>G F∧Qz 3 1 c.1 r.n (l.map Qx) c.2⟩):=by
 obtain ⟨q,n,c⟩:=r
 dsimp only [Sr.v] at hn ⊢
 refine J9.intro Tryz.func133 rfl (by rfl) rfl rfl<|SR hG<|J_sr<|JS_as rfl<|JS_nt<|QG<|J_sr<|JS_mv rfl<|QA (C9 rfl rfl Qd)<|QE<|QC ?_
 refine QP rfl (fun hc=>?_) (fun hc=>?_)
 ·
  obtain rfl:q=none:=by
   cases q with
   |none=>rfl
   |some a=>cases hc
  refine J_sr<|JS_as rfl<|JS_nt<|QS ?_
  exact Yt (⟨.slice none 0 0,[]⟩) rfl (.tmp rfl .nil) (rfl) (fun w h=>St.imp h (by simp) (fun F h9=>⟨h9.1,OQ h9.2⟩))
 ·
  obtain ⟨a,rfl⟩:∃ a,q=some a:=by
   cases q with
   |none=>cases hc
   |some a=>exact⟨a,rfl⟩
  refine QO<|QC<|J_sr<|GO (Q7 Qd) Qs (fun b5=>JS_mv rfl<|X9 (bs':=bs++[(b5,.cells ([]++[]:List Value).toArray 3 (0,0))]) (List.perm_append_comm (l₁:=[_]))<|VT (ob:=[(b5,.cells ([]++[]:List Value).toArray 3 (0,0))]) (n:=0) (k:=n) (sz:=1) (news:=l.map Qx) rfl rfl Qd Qs Vj rfl Db (.some rfl rfl (Nat.le_refl _) (by decide)) (Src.uH (fun F hG=>hG.2.1) (by simp [hn])) (by omega) (by omega) (q7 l) (fun v7 ob7 hr7=>?_))
  rw [Nat.zero_add,List.nil_append] at hr7
  refine JS_as rfl<|JS_nt<|QS ?_
  exact Yt (⟨v7,ob7⟩) rfl (.tmp rfl .nil) (rfl) (fun w h=>St.imp h subl_r (fun F h9=>⟨h9.1,hr7⟩))
end
end
section
open Go.RowKit Ig
structure Vr where
 f:List UInt8
 r:Sr
 k:List Int
instance :Inhabited Vr:=⟨⟨[],⟨none,0,0⟩,[]⟩⟩
def KU (t:Vr):List Value:=[tx t.f,.slice t.r.q t.r.n t.r.cap]
theorem YP (t:Vr):(KU t).length=2:=rfl
def Zl (F:Gs) (ts:List Vr):Prop:=∀ t∈ts,JL F t.r t.k
theorem Zl.le {F F':Gs} {ts:List Vr} (h:Zl F ts) (k:Gs.le F F'):Zl F' ts:=fun t ht=>(h t ht).le k
def CS (t:Vr):Tm:=(Jk t.f,t.k)
structure gj (ps:List Vr) where
 i:Nat
 ts:List XT
 le:i≤ps.length
 hI:K4 ts ((ps.take i).map CS)
theorem Ld (l:List Tm) (i:Nat):ZV (l.take i)≤ZV l:=by
 have:=XV (l.take i) (l.drop i)
 rw [List.take_append_drop] at this;omega
theorem BE {l:List Tm} {t:Tm} (h:t∈l):JO t.1≤ZV l:=by
 induction l with
 |nil=>cases h
 |cons x l ih =>
  have e:ZV (x::l)=JO x.1+1+ZV l:=by unfold ZV;rw [List.map_cons,List.sum_cons]
  rcases List.mem_cons.1 h with rfl | h
  ·omega
  ·have:=ih h;omega
section
variable {P:Program} {w:World} {F:Gs} {f:FuncId} {args:List Value} {γ:Type} {val:γ→Value} {fact:γ→Gs→Prop}
theorem J9.toG [Dr] {G0:Gs→Prop} {E':γ→Env} (h:J9 P f args ⟨w,F,[],G0⟩ val E') (hF:Fits F w) (hg:∀ F',Gs.le F F'→G0 F') (he:∀ c w',St (E' c) w'→St ⟨w,F,[],fun F=>fact c F⟩ w'):QT P f args w F val fact:=by
 refine⟨h.1,(h.2 w (St.start hF hg)).mono ?_⟩
 rintro e w' ⟨c,rfl,hw⟩
 obtain ⟨F',h'⟩:=he c w' hw
 exact⟨c,F',rfl,h'.ext,h'.le,h'.old,h'.fits,h'.g⟩
theorem SI {r:Sr} {l:List Int} (hF:Fits F w) (hR:JL F r l) (hl:l.length≤1000000000):QT Tryz.prog 133 [r.v] w F (fun(c:Sr)=>c.v) (fun c F=>JL F c l):=by
 have h:=SJ (w0:=w) (F0:=F) (bs:=[]) (G:=fun F'=>Gs.le F F') (r:=r) (l:=l) (fun F' h=>hR.le h) hR.2.1 hl
 refine⟨h.1,(h.2 w (St.start hF fun _ h=>h)).mono ?_⟩
 rintro e w' ⟨⟨v,ob⟩,rfl,hw⟩
 obtain ⟨F1,h1⟩:=id hw
 have ho:=(h1.hG).2
 dsimp only at ho hw
 obtain ⟨s,hv,hsn,hsc,hfix⟩:=Qz.fix (w0:=w) (F0:=F) (bs1:=[]) ho
 obtain ⟨F',h'⟩:=hfix w' hw
 exact⟨s,F',by rw [hv],h'.ext,h'.le,h'.old,h'.fits,fun F'' hle=>⟨by rw [hsn];exact(h'.g F'' hle).2,by rw [hsn];exact hR.2.1,by rw [hsn];exact hsc⟩⟩
end
section
theorem qF {w:World} {F:Gs} {r:Sr} {ps:List Vr} (hF:Fits F w) (hGl:JC F) (hR:Q4 F r.q r.n 2 (ps.flatMap KU)) (hP:Zl F ps) (hn:ps.length=r.n) (hl:ps.length≤100000) (hv:∀ t∈ps,Ja t.f=0∧t.f.length≤1000000∧PW t.k) (hz:ZV (ps.map CS)≤40000000) :
  QT Tryz.prog 130 [r.v] w F (fun(c:Sr×List XT)=>c.1.v) (fun c F=>Jm F c.1 c.2 (JQ (ps.map CS))):=by
 obtain ⟨q,n,cap⟩:=r
 dsimp only [Sr.v] at hn hR ⊢
 refine QT.intro (G:=fun F=>JC F∧Q4 F q n 2 (ps.flatMap KU)∧Zl F ps) Tryz.func130 rfl (by rfl) rfl rfl hF (fun F' hF'=>⟨hGl.le hF',hR.le hF',hP.le hF'⟩)<|J_sr<|JS_as rfl<|JS_nt<|J_sr<|VS tx (fun m=>JS_as rfl<|JS_nt<|QG<|J_sr<|JS_mv rfl<|QA (Qi rfl Xk)<|JS_mv rfl<|JS_nt<|QX<|Jw (ι:=gj ps) [(3,_),(7,_),(8,_)] (fun i=>[(9,.int .i64 ((i.i:Nat):Int))]) (fun i=>[(m,X5 tx (Wa i.ts))]) (fun i F=>VY F i.ts) (fun i=>ps.length - i.i) (⟨0,[],Nat.zero_le _,K4.nil⟩) ⟨rfl,rfl,rfl,trivial⟩ ⟨rfl,trivial⟩ subl_r (fun _ _ _ h=>by cases h) (fun i=>?_))
 simp only [List.cons_append,List.nil_append]
 have hi:=i.le
 refine J_sr<|QA (QU rfl rfl rfl)<|JS_nt<|QG ?_
 refine QP rfl (fun hc=>?_) (fun hc=>?_)
 ·
  have hlt:i.i<ps.length:=by have:=dec_t hc;omega
  have hv1:=hv _ (JN hlt)
  have hz1:=Ld (ps.map CS) i.i
  rw [← List.map_take] at hz1
  have hz2:JO (CS (el ps i.i)).1≤ZV (ps.map CS):=BE (List.mem_map_of_mem (JN hlt))
  dsimp only [CS] at hz2
  have hl1:=hv1.2.2.2
  refine QO<|QC<|QG<|QX<|J_sr<|QA (JK (n:=n) (i.i) (fun F h9=>h9.1.2.1) rfl rfl Xk XO (by omega))<|QA (Xq (n:=n) (vs:=[tx (el ps (i.i)).f,.slice (el ps (i.i)).r.q (el ps (i.i)).r.n (el ps (i.i)).r.cap]) ((i.i)*2) (fun F h9=>h9.1.2.1) (by omega) rfl XO rfl (fun j v hv=>J2 (f:=KU) (l:=ps) YP (by omega) hv))<|Qf Xf (fun b5=>QQ (vs:=[_,_]) rfl rfl rfl XO rfl .here (.here (.here .nil)) ⟨rfl,rfl,trivial⟩<|JS_nt<|JR (.cons_cons _ (.cons _ .slnil)) mixed (by kernel_rfl)<|QM (QD rfl)<|QM (QI rfl WQ Jy)<|QM (Qo rfl Jy .here (.here .nil))<|Qg rfl (fun w F hF h9=>Gv hF h9.1.1 ((ZO (hv _ (JN hlt)).1).1) (by have:=(hv _ (JN hlt)).2.1;omega)) (fun x16=>QM (QI rfl Yp Qv)<|QM (Qo rfl Qv .here (.skip (.here .nil)))<|Qg rfl (fun w F hF h9=>SI hF (r:=(el ps i.i).r) (h9.1.1.2.2 _ (JN hlt)) (by omega)) (fun c19=>UJ rfl (List.Perm.swap _ _ _) (BI (r:=c19) (x:=x16) i.hI hv1.2.2 (by omega) (by omega) (fun F h9=>⟨h9.1.1.1.1,h9.1.1.2,h9.1.2,h9.2⟩)) (fun n w h=>St.imp h (.cons _ subl_r) (fun F h=>h.1.1.1)) (fun n20=>MS _ (fun w F hF h=>h.2.2) (fun h20=>?_)))))
  have hI2:K4 (addN i.ts n20) ((ps.take (i.i+1)).map CS):=by
   have:=i.hI.add hv1.2.2 h20
   rw [X4 hlt,List.map_append];exact this
  refine Q9<|Qk<|QC<|QB<|QA (Qp rfl rfl (by omega))<|JS_mv rfl<|QE ?_
  exact Ql (⟨i.i+1,addN i.ts n20,hlt,hI2⟩) (by show ps.length - (i.i+1)<ps.length - i.i;omega) ⟨rfl,rfl,rfl,rfl,trivial⟩ (.cons_cons _ (.cons _ .slnil)) (fun F h=>⟨h.1.1.1.1,h.2.1⟩)
 ·
  have hge:i.i=ps.length:=by have:=dec_f hc;omega
  refine Qy ?_
  repeat (first | refine QZ ?_ | refine QV (by rfl) ?_)
  refine Qa<|QC<|J_sr<|JS_mv rfl ?_
  have hI:=i.hI
  rw [hge,List.take_length] at hI
  refine XL rfl (List.Perm.refl _) (GS hI (by have:=hI.ln;rw [List.length_map] at this;omega) (fun F h=>h.2)) (fun c23=>JS_as rfl<|JS_nt<|QS ?_)
  exact QR (c23) rfl (.tmp rfl .nil) (rfl) (fun F h=>h.2)
end
end
section
open Go.RowKit Ig
abbrev Wl:=Sr×List XT
instance :Inhabited Wl:=⟨(⟨none,0,0⟩,[])⟩
def UC (F:Gs) (ls:List Wl):Prop:=∀ e∈ls,Jm F e.1 e.2 (JG e.2)
theorem UC.le {F F':Gs} {ls:List Wl} (h:UC F ls) (k:Gs.le F F'):UC F' ls:=fun e he=>(h e he).le k
def By (ls:List Wl):List Tm:=ls.flatMap fun e=>JG e.2
structure cE (ls:List Wl) where
 i:Nat
 ts:List XT
 le:i≤ls.length
 hI:K4 ts (By (ls.take i))
structure B8 (l0:List Tm) (te:List XT) where
 j:Nat
 ts:List XT
 le:j≤te.length
 hI:K4 ts (l0++JG (te.take j))
theorem Xi {te:List XT} {j:Nat} (h:j<te.length):JG (te.take (j+1))=JG (te.take j)++[(el te j).t]:=by unfold JG;rw [X4 h,List.map_append];rfl
theorem Cy {a b c:List Tm} (e:a++b=c):ZV a≤ZV c:=by rw [← e,XV];omega
theorem Ir {ls:List Wl} {i:Nat} (h:i<ls.length):By (ls.take (i+1))=By (ls.take i)++JG (el ls i).2:=by unfold By;rw [X4 h,List.flatMap_append];simp
theorem jW {ls:List Wl} {i j:Nat} (h:i<ls.length):ZV (By (ls.take i)++JG ((el ls i).2.take j))≤ZV (By ls):=by
 have e1:By ls=By (ls.take i)++(JG (el ls i).2++By (ls.drop (i+1))):=by
  have:ls=ls.take i++el ls i::ls.drop (i+1):=by rw [← E4 h,List.take_append_drop]
  unfold By
  conv=>lhs;rw [this]
  rw [List.flatMap_append,List.flatMap_cons]
 have e2:JG (el ls i).2=JG ((el ls i).2.take j)++JG ((el ls i).2.drop j):=by unfold JG;rw [← List.map_append,List.take_append_drop]
 have h1:=congrArg ZV e1
 have h2:=congrArg ZV e2
 rw [XV,XV] at h1
 rw [XV] at h2
 rw [XV];omega
theorem qJ {w:World} {F:Gs} {p q:Wl} (hF:Fits F w) (hGl:JC F) (hP:Jm F p.1 p.2 (JG p.2)) (hQ:Jm F q.1 q.2 (JG q.2)) (hp:(∀ t∈p.2,PW t.t.2)∧∀ t∈q.2,PW t.t.2) (hl:p.2.length≤400000000∧q.2.length≤400000000) (hz:ZV (JG p.2++JG q.2)≤40000000) :
  QT Tryz.prog 139 [p.1.v,q.1.v] w F (fun(c:Wl)=>c.1.v) (fun c F=>Jm F c.1 c.2 (JQ (JG p.2++JG q.2))):=by
 have hpw:∀ e∈[p,q],(∀ t∈e.2,PW t.t.2)∧e.2.length≤400000000∧e.2.length=e.1.n:=by
  intro e he
  simp only [List.mem_cons,List.not_mem_nil,or_false] at he
  rcases he with rfl | rfl
  ·exact⟨hp.1,hl.1,hP.2.2.2.2⟩
  ·exact⟨hp.2,hl.2,hQ.2.2.2.2⟩
 have hall:By [p,q]=JG p.2++JG q.2:=by simp [By]
 rw [← hall] at hz ⊢
 dsimp only [Sr.v]
 refine QT.intro (G:=fun F=>JC F∧UC F [p,q]) Tryz.func139 rfl (by rfl) rfl rfl hF (fun F' hF'=>⟨hGl.le hF',UC.le (by intro e he;simp only [List.mem_cons,List.not_mem_nil,or_false] at he;rcases he with rfl | rfl;exact hP;exact hQ) hF'⟩)<|J_sr<|JS_as rfl<|JS_nt<|J_sr<|VS tx (fun m=>JS_as rfl<|JS_nt<|QG<|J_sr<|JS_mv rfl<|JS_mv rfl<|QW rfl (Q7 DH) V8 LP rfl rfl (fun b13=>QA (Qi rfl DH)<|JS_mv rfl<|JS_nt<|QX<|Jw (ι:=cE [p,q]) [(5,_),(13,_),(14,_)] (fun i=>[(15,.int .i64 ((i.i:Nat):Int))]) (fun i=>[(m,X5 tx (Wa i.ts))]) (fun i F=>VY F i.ts) (fun i=>2 - i.i) (⟨0,[],Nat.zero_le _,K4.nil⟩) ⟨rfl,rfl,rfl,trivial⟩ ⟨rfl,trivial⟩ subl_r (fun _ _ _ h=>by cases h) (fun i=>?_)))
 simp only [List.cons_append,List.nil_append]
 have hi:=i.le
 simp only [List.length_cons,List.length_nil] at hi
 refine J_sr<|QA (QU rfl rfl rfl)<|JS_nt<|QG ?_
 refine QP rfl (fun hc=>?_) (fun hc=>?_)
 ·
  have hlt:i.i<[p,q].length:=by have:=dec_t hc;simp only [List.length_cons,List.length_nil];omega
  have hem:=JN hlt
  have hpe:=hpw _ hem
  have hln:=hpe.2.2
  have hln2:=hpe.2.1
  refine QO<|QC<|QG<|QX<|J_sr<|QA (JK (n:=2) (i.i) (fun F h9=>Q4.of (n:=2) (sz:=1) (cs:=[p,q].map fun e=>e.1.v) h9.1.2 rfl) rfl rfl DH V8 (by simpa using hlt))<|QA (JM (n:=2) (i.i*1) (fun F h9=>Q4.of (n:=2) (sz:=1) (cs:=[p,q].map fun e=>e.1.v) h9.1.2 rfl) (by decide) rfl V8 (DR (f:=fun e:Wl=>e.1.v) (l:=[p,q]) hlt))<|JS_as rfl<|JS_nt<|J_sr<|JS_mv rfl<|QA (Qi rfl J1)<|JS_mv rfl<|JS_nt<|QX<|Jw (ι:=B8 (By ([p,q].take i.i)) (el [p,q] i.i).2) [(5,_),(13,_),(14,_),(15,_),(19,_),(20,_)] (fun i2=>[(21,.int .i64 ((i2.j:Nat):Int))]) (fun i2=>[(m,X5 tx (Wa i2.ts))]) (fun i2 F=>VY F i2.ts) (fun i2=>(el [p,q] i.i).2.length - i2.j) (⟨0,i.ts,Nat.zero_le _,by simpa [JG] using i.hI⟩) ⟨rfl,rfl,rfl,rfl,rfl,rfl,trivial⟩ ⟨rfl,trivial⟩ subl_r (fun _ h=>h.2) (fun i2=>?_)
  simp only [List.cons_append,List.nil_append]
  have hj:=i2.le
  refine J_sr<|QA (QU rfl rfl rfl)<|JS_nt<|QG ?_
  refine QP rfl (fun hc=>?_) (fun hc=>?_)
  ·
   have hlt2:i2.j<(el [p,q] i.i).2.length:=by have:=dec_t hc;omega
   have htm:=JN hlt2
   have hz1:=jW (j:=i2.j) hlt
   have hz2:JO (el (el [p,q] i.i).2 i2.j).t.1≤ZV (By [p,q]):=BE (List.mem_flatMap.2 ⟨_,hem,List.mem_map_of_mem htm⟩)
   refine QO<|QC<|QG<|QX<|J_sr<|QA (JK (n:=(el [p,q] i.i).1.n) (i2.j) (fun F h9=>(h9.1.1.1.2 _ hem).1) rfl rfl J1 JZ (by omega))<|QA (Xq (n:=(el [p,q] i.i).1.n) (vs:=[.int .i64 (el (el [p,q] i.i).2 (i2.j)).x.n.s,.slice (el (el [p,q] i.i).2 (i2.j)).x.n.q (el (el [p,q] i.i).2 (i2.j)).x.n.n (el (el [p,q] i.i).2 (i2.j)).x.n.cap,.int .i64 (el (el [p,q] i.i).2 (i2.j)).x.d.s,.slice (el (el [p,q] i.i).2 (i2.j)).x.d.q (el (el [p,q] i.i).2 (i2.j)).x.d.n (el (el [p,q] i.i).2 (i2.j)).x.d.cap,.slice (el (el [p,q] i.i).2 (i2.j)).r.q (el (el [p,q] i.i).2 (i2.j)).r.n (el (el [p,q] i.i).2 (i2.j)).r.cap]) ((i2.j)*5) (fun F h9=>(h9.1.1.1.2 _ hem).1) (by omega) rfl JZ rfl (fun j v hv=>J2 (f:=YY) (l:=(el [p,q] i.i).2) YE (by omega) hv))<|Qf Zb (fun b9=>QQ (vs:=[_,_,_,_,_]) rfl rfl rfl JZ rfl .here (.here (.here (.here (.here (.here .nil))))) ⟨rfl,rfl,rfl,rfl,rfl,trivial⟩<|JS_nt<|QB<|JS_mv rfl<|QA (QI rfl Zm Qe)<|QA (QL (vs:=[_,_,_,_]) rfl Qe .here (.here (.here (.here (.here .nil)))) rfl)<|QA (QI rfl X1 Qv)<|QA (Qo rfl Qv .here (.skip (.skip (.skip (.skip (.here .nil))))))<|XL rfl (List.Perm.swap _ _ _) (BI (r:=(el (el [p,q] i.i).2 i2.j).r) (x:=(el (el [p,q] i.i).2 i2.j).x) i2.hI (hpe.1 _ htm) (by omega) (by omega) (fun F h9=>⟨h9.1.1.1.1,h9.2,((h9.1.1.1.2 _ hem).2.1 _ htm).1,((h9.1.1.1.2 _ hem).2.1 _ htm).2⟩)) (fun n30=>JH _ (fun w F hF h=>h.2.2) (fun h30=>QE<|Qk<|QC<|QB<|QA (Qp rfl rfl (by omega)) ?_)))
   refine JS_mv rfl<|QE ?_
   exact Ql (⟨i2.j+1,addN i2.ts n30,hlt2,by rw [Xi hlt2,← List.append_assoc];exact i2.hI.add (hpe.1 _ htm) h30⟩) (by show _ - (i2.j+1)<_ - i2.j;omega) ⟨rfl,rfl,rfl,rfl,rfl,rfl,rfl,trivial⟩ (.cons_cons _ (.cons _ .slnil)) (fun F h=>⟨h.1.1,h.2.1⟩)
  ·
   have hge2:i2.j=(el [p,q] i.i).2.length:=by have:=dec_f hc;omega
   refine Qy ?_
   repeat (first | refine QZ ?_ | refine QV (by rfl) ?_)
   refine Qa<|Qk<|QC<|QB<|QA (Qp rfl rfl (by omega))<|JS_mv rfl<|QE ?_
   exact Ql (⟨i.i+1,i2.ts,hlt,by rw [Ir hlt];have:=i2.hI;rw [hge2,List.take_length] at this;exact this⟩) (by show 2 - (i.i+1)<2 - i.i;simp only [List.length_cons,List.length_nil] at hlt;omega) ⟨rfl,rfl,rfl,rfl,trivial⟩ subl_r (fun F h=>⟨h.1.1,h.2⟩)
 ·
  have hge:i.i=[p,q].length:=by have:=dec_f hc;simp only [List.length_cons,List.length_nil];omega
  refine Qy ?_
  repeat (first | refine QZ ?_ | refine QV (by rfl) ?_)
  refine Qa<|QC<|J_sr<|JS_mv rfl ?_
  have hI:=i.hI
  rw [hge,List.take_length] at hI
  refine XL rfl (List.Perm.refl _) (GS hI (by have:=hI.ln;rw [hall,List.length_append] at this;simp only [JG,List.length_map] at this;omega) (fun F h=>h.2)) (fun c34=>JS_as rfl<|JS_nt<|QS ?_)
  exact QR (c34) rfl (.tmp rfl .nil) (rfl) (fun F h=>h.2)
end
section
open Go.RowKit Ig
section
variable {P:Program} {Q:Exit→Act→World→Prop} {N:Nat} {m:Sl} {E0:Env} {ops:Array Oper} {l:List Oper} {w0:World} {F0:Gs} {bs:List (Nat×Obj)} {G:Gs→Prop}
theorem MT [Dr] {bs':List (Nat×Obj)} (hp:bs.Perm bs') (k:JD P ops Q E0 l N m ⟨w0,F0,bs',G⟩):JD P ops Q E0 l N m ⟨w0,F0,bs,G⟩:=fun hE a w ha hw=>k (fun w h=>hE w (h.perm hp.symm)) a w ha (hw.perm hp)
end
def YH (a:Rat) (l:List Tm):List Tm:=if a=0 then [] else l.map fun t=>(t.1*a,t.2)
structure uu (a:Rat) (ts:List XT) where
 i:Nat
 v:Value
 ob:List (Nat×Obj)
 out:List XT
 le:i≤ts.length
 hr:Qz 165 5 v i (out.flatMap YY) ob
 ho:JG out=(JG (ts.take i)).map fun t=>(t.1*a,t.2)
theorem qL {a:Rat} {ts out:List XT} {i:Nat} (hi:i≤ts.length) (h:JG out=(JG (ts.take i)).map fun t=>(t.1*a,t.2)):out.length=i:=by
 have:=congrArg List.length h
 simp only [JG,List.length_map,List.length_take] at this
 omega
theorem OA {w:World} {F:Gs} {p:Wl} {x:Fr} {a:Rat} (hF:Fits F w) (hP:Jm F p.1 p.2 (JG p.2)) (hA:JV F x a) (hl:p.2.length≤1000000) (ha:JO a≤40000000) (hz:ZV (JG p.2)≤40000000) :
  QT Tryz.prog 183 [p.1.v,x.v] w F (fun(c:Wl)=>c.1.v) (fun c F=>Jm F c.1 c.2 (YH a (JG p.2))):=by
 obtain ⟨⟨q,n,cap⟩,ts⟩:=p
 have hln:ts.length=n:=hP.2.2.2.2
 dsimp only [Sr.v,Fr.v] at hP hl hz ⊢
 refine QT.intro (G:=fun F=>Jm F ⟨q,n,cap⟩ ts (JG ts)∧JV F x a) Tryz.func183 rfl (by rfl) rfl rfl hF (fun F' hF'=>⟨hP.le hF',hA.le hF'⟩)<|J_sr<|Q5 rfl (vs:=[_,_,_,_]) rfl (fun b3=>JS_as rfl<|JS_nt<|QG<|J_sr<|QA (QL (vs:=[_,_,_,_]) rfl Qe .here (.here (.here (.here (.here .nil)))) rfl)<|QH rfl (fun w F hF ⟨hP,⟨hxn,hxd⟩⟩=>Gf hF ⟨by assumption,by assumption⟩) (fun _=>QA (QU rfl rfl rfl)<|QE<|QC ?_))
 refine QP rfl (fun hc=>?_) (fun hc=>?_)
 ·
  have ha0:a=0:=BN.1 (by simpa using hc)
  refine J_sr<|JS_as rfl<|JS_nt<|QS ?_
  exact QR ((⟨none,0,0⟩,[])) rfl (.tmp rfl .nil) (rfl) (fun F h9=>⟨Q4.nil F none 5,(fun _ h=>by cases h),by unfold YH;rw [if_pos ha0];rfl,Nat.le_refl _,rfl⟩)
 ·
  have ha0:a≠0:=fun e=>by rw [e] at hc;cases hc
  refine QO<|QC<|J_sr<|JS_as rfl<|JS_nt<|QG<|J_sr<|JS_mv rfl<|QA (Qi rfl J1)<|JS_mv rfl<|JS_nt<|QX<|Jw (ι:=uu a ts) [(3,_),(11,_),(12,_)] (fun i=>[(5,i.v),(13,.int .i64 ((i.i:Nat):Int))]) (fun i=>(b3,.cells [.int .i64 x.n.s,.slice x.n.q x.n.n x.n.cap,.int .i64 x.d.s,.slice x.d.q x.d.n x.d.cap].toArray 130 (0,0))::i.ob) (fun i F=>VY F i.out) (fun i=>ts.length - i.i) (⟨0,_,[],[],Nat.zero_le _,.nil,by simp [JG]⟩) ⟨rfl,rfl,rfl,trivial⟩ ⟨rfl,rfl,trivial⟩ subl_r (fun _ _ _ h=>by cases h) (fun i=>?_)
  simp only [List.cons_append,List.nil_append]
  have hi:=i.le
  refine J_sr<|QA (QU rfl rfl rfl)<|JS_nt<|QG ?_
  refine QP rfl (fun hc=>?_) (fun hc=>?_)
  ·
   have hlt:i.i<ts.length:=by have:=dec_t hc;omega
   have htm:=JN hlt
   have hz2:JO (el ts i.i).t.1≤ZV (JG ts):=BE (List.mem_map_of_mem htm)
   refine QO<|QC<|QG<|QX<|J_sr<|QA (JK (n:=n) (i.i) (fun F h9=>(h9.1.1.1).1) rfl rfl J1 JZ (by omega))<|QA (Xq (n:=n) (vs:=[.int .i64 (el ts (i.i)).x.n.s,.slice (el ts (i.i)).x.n.q (el ts (i.i)).x.n.n (el ts (i.i)).x.n.cap,.int .i64 (el ts (i.i)).x.d.s,.slice (el ts (i.i)).x.d.q (el ts (i.i)).x.d.n (el ts (i.i)).x.d.cap,.slice (el ts (i.i)).r.q (el ts (i.i)).r.n (el ts (i.i)).r.cap]) ((i.i)*5) (fun F h9=>(h9.1.1.1).1) (by omega) rfl JZ rfl (fun j v hv=>J2 (f:=YY) (l:=ts) YE (by omega) hv))<|Qf Zb (fun b7=>QQ (vs:=[_,_,_,_,_]) rfl rfl rfl JZ rfl .here (.here (.here (.here (.here (.here .nil))))) ⟨rfl,rfl,rfl,rfl,rfl,trivial⟩<|JS_nt<|JR (.cons_cons _ (.cons_cons _ (List.nil_sublist _))) mixed (by kernel_rfl)<|QM (QD rfl)<|QM (QI rfl Zm Qe)<|QM (QL (vs:=[_,_,_,_]) rfl Qe .here (.here (.here (.here (.here .nil)))) rfl)<|QM (QL (vs:=[_,_,_,_]) rfl Qe (.there .here) (.here (.here (.here (.here .nil)))) rfl)<|Qg rfl (fun w F hF ⟨⟨⟨hP,⟨hxn,hxd⟩⟩,_⟩,hT⟩=>KK hF (hP.2.1 _ htm |>.1) ⟨by assumption,by assumption⟩ (by omega) (by omega)) (fun x21=>QM (QI rfl X1 Qv)<|QM (Qo rfl Qv .here (.skip (.skip (.skip (.skip (.here .nil))))))<|QM (Q6 rfl M4 Zb (.cons (vs:=[_,_,_,_]) rfl rfl rfl (.here (.here (.here (.here .nil)))) (.cons (vs:=[_]) rfl rfl rfl (.skip (.skip (.skip (.skip (.here .nil))))) .nil))) ?_))
   refine Jt rfl (Q7 J1) JZ Zb rfl rfl (fun b25=>?_) (fun w h=>h.imp (.cons_cons _ (.cons_cons _ (List.nil_sublist _))) (fun F h=>h.1))
   refine MT (List.perm_append_comm (l₁:=[_,_])) ?_
   refine Dj (n:=i.i) (k:=1) (sz:=5) (news:=YY ⟨x21,(el ts i.i).r,((el ts i.i).t.1*a,(el ts i.i).t.2)⟩) rfl rfl J1 JZ Zb rfl Ac i.hr (Src.row (off:=0) (fun F h9=>h9.2) (fun j v hv=>by rw [Nat.zero_add];show((YY ⟨x21,(el ts i.i).r,((el ts i.i).t.1*a,(el ts i.i).t.2)⟩).toArray)[j]?=some v;rw [List.getElem?_toArray];exact hv) rfl) (by omega) (by omega) (Rp _) subl_r (fun _ h=>h.1.1) (fun v26 ob26 hr26=>?_)
   refine MT (List.perm_append_comm (l₂:=[_,_]))<|QM (QF rfl)<|Q9<|Qk<|QC<|QB<|QA (Qp rfl rfl (by omega))<|JS_mv rfl<|QE ?_
   exact Ql (⟨i.i+1,v26,ob26,i.out++[⟨x21,(el ts i.i).r,((el ts i.i).t.1*a,(el ts i.i).t.2)⟩],hlt,by rw [List.flatMap_append];simpa using hr26,by rw [Xi hlt,List.map_append,← i.ho];simp [JG]⟩) (by show ts.length - (i.i+1)<ts.length - i.i;omega) ⟨rfl,rfl,rfl,rfl,rfl,trivial⟩ (.cons _ subl_r) (fun F ⟨⟨⟨hB,hT⟩,⟨h21,h21_⟩⟩,_⟩=>⟨hB,fun t ht=>by
   rcases List.mem_append.1 ht with ht | ht
   ·exact hT t ht
   ·rw [List.mem_singleton.1 ht];exact⟨⟨h21,h21_⟩,(hB.1.1.2.1 _ htm).2⟩⟩)
  ·
   have hge:i.i=ts.length:=by have:=dec_f hc;omega
   refine Qy ?_
   repeat (first | refine QZ ?_ | refine QV (by rfl) ?_)
   refine Qa<|QC<|QG<|QB ?_
   obtain ⟨r,hv,hrn,hrc,hfix⟩:=Qz.fix (w0:=w) (F0:=F) (bs1:=[_]) (G:=_) i.hr
   refine B4 hfix ?_
   rw [hv]
   refine JS_mv rfl<|JS_as rfl<|JS_nt<|QS ?_
   exact QR ((r,i.out)) rfl (.tmp rfl .nil) (rfl) (fun F h9=>⟨by rw [hrn];exact h9.2,h9.1.2,by unfold YH;rw [if_neg ha0,i.ho,hge,List.take_length],by rw [hrn];exact hrc,by rw [hrn];exact qL hi i.ho⟩)
end
section
open Go.RowKit Ig
abbrev Pt:=List (List UInt8×List Int)
def Jp (ts:List Vr):Pt:=ts.map fun t=>(t.f,t.k)
def Xg (l:List Tm):Pt:=l.map fun t=>(Jg t.1,t.2)
def ZR (F:Gs) (s:Sr) (ts:List Vr) (p:Pt):Prop:=Q4 F s.q s.n 2 (ts.flatMap KU)∧Zl F ts∧Jp ts=p∧s.n≤s.cap∧ts.length=s.n
theorem ZR.le {F F':Gs} {s:Sr} {ts:List Vr} {p:Pt} (h:ZR F s ts p) (k:Gs.le F F'):ZR F' s ts p:=⟨h.1.le k,h.2.1.le k,h.2.2⟩
abbrev Yw:=Sr×List Vr
theorem jS (t:Vr):∀ v∈KU t,v.oneCell'=true:=by
 intro v hv
 unfold KU at hv
 simp only [List.mem_cons,List.not_mem_nil,or_false] at hv
 rcases hv with rfl | rfl<;>rfl
structure uq (ts:List XT) where
 i:Nat
 v:Value
 ob:List (Nat×Obj)
 out:List Vr
 le:i≤ts.length
 hr:Qz 122 2 v i (out.flatMap KU) ob
 ho:Jp out=Xg (JG (ts.take i))
theorem yO {ts:List XT} {out:List Vr} {i:Nat} (hi:i≤ts.length) (h:Jp out=Xg (JG (ts.take i))):out.length=i:=by
 have:=congrArg List.length h
 simp only [Jp,Xg,JG,List.length_map,List.length_take] at this
 omega
theorem qD {w:World} {F:Gs} {p:Wl} (hF:Fits F w) (hGl:JC F) (hP:Jm F p.1 p.2 (JG p.2)) (hp:∀ t∈p.2,PW t.t.2) (hl:p.2.length≤1000000) (hz:∀ t∈p.2,JO t.t.1≤100000000) :
  QT Tryz.prog 221 [p.1.v] w F (fun(c:Yw)=>c.1.v) (fun c F=>ZR F c.1 c.2 (Xg (JG p.2))):=by
 obtain ⟨⟨q,n,cap⟩,ts⟩:=p
 have hln:ts.length=n:=hP.2.2.2.2
 dsimp only [Sr.v] at hP hl hz ⊢
 refine QT.intro (G:=fun F=>JC F∧Jm F ⟨q,n,cap⟩ ts (JG ts)) Tryz.func221 rfl (by rfl) rfl rfl hF (fun F' hF'=>⟨hGl.le hF',hP.le hF'⟩)<|J_sr<|JS_as rfl<|JS_nt<|J_sr<|JS_as rfl<|JS_nt<|QG<|J_sr<|JS_mv rfl<|QA (Qi rfl J1)<|JS_mv rfl<|JS_nt<|QX<|Jw (ι:=uq ts) [(6,_),(7,_)] (fun i=>[(3,i.v),(8,.int .i64 ((i.i:Nat):Int))]) (fun i=>i.ob) (fun i F=>Zl F i.out) (fun i=>ts.length - i.i) (⟨0,_,[],[],Nat.zero_le _,.nil,by simp [JG,Jp,Xg]⟩) ⟨rfl,rfl,trivial⟩ ⟨rfl,rfl,trivial⟩ subl_r (fun _ _ _ h=>by cases h) (fun i=>?_)
 simp only [List.cons_append,List.nil_append]
 have hi:=i.le
 refine J_sr<|QA (QU rfl rfl rfl)<|JS_nt<|QG ?_
 refine QP rfl (fun hc=>?_) (fun hc=>?_)
 ·
  have hlt:i.i<ts.length:=by have:=dec_t hc;omega
  have htm:=JN hlt
  refine QO<|QC<|QG<|QX<|J_sr<|QA (JK (n:=n) (i.i) (fun F h9=>(h9.1.2).1) rfl rfl J1 JZ (by omega))<|QA (Xq (n:=n) (vs:=[.int .i64 (el ts (i.i)).x.n.s,.slice (el ts (i.i)).x.n.q (el ts (i.i)).x.n.n (el ts (i.i)).x.n.cap,.int .i64 (el ts (i.i)).x.d.s,.slice (el ts (i.i)).x.d.q (el ts (i.i)).x.d.n (el ts (i.i)).x.d.cap,.slice (el ts (i.i)).r.q (el ts (i.i)).r.n (el ts (i.i)).r.cap]) ((i.i)*5) (fun F h9=>(h9.1.2).1) (by omega) rfl JZ rfl (fun j v hv=>J2 (f:=YY) (l:=ts) YE (by omega) hv))<|Qf Zb (fun b5=>QQ (vs:=[_,_,_,_,_]) rfl rfl rfl JZ rfl .here (.here (.here (.here (.here (.here .nil))))) ⟨rfl,rfl,rfl,rfl,rfl,trivial⟩<|JS_nt<|JR (.cons_cons _ (List.nil_sublist _)) mixed (by kernel_rfl)<|QM (QD rfl)<|QM (QI rfl Zm Qe)<|QM (QL (vs:=[_,_,_,_]) rfl Qe .here (.here (.here (.here (.here .nil)))) rfl)<|Qg rfl (fun w F hF h9=>E2 hF h9.1.1 (h9.1.2.2.1 _ htm |>.1) (hz _ htm)) (fun _=>QM (QI rfl X1 Qv)<|QM (Qo rfl Qv .here (.skip (.skip (.skip (.skip (.here .nil))))))<|Qg rfl (fun w F hF h9=>SI hF (r:=(el ts i.i).r) (h9.1.1.2.2.1 _ htm).2 (by have:=(hp _ htm).2;omega)) (fun c18=>QM (Q6 rfl ZH Xf (.cons (vs:=[_]) rfl rfl rfl (.here .nil) (.cons (vs:=[_]) rfl rfl rfl (.skip (.here .nil)) .nil))) ?_)))
  refine Jt rfl (Q7 Xk) XO Xf rfl rfl (fun b20=>?_) (fun w h=>h.imp (.cons_cons _ (List.nil_sublist _)) (fun F h=>h.1.1))
  refine MT (List.perm_append_comm (l₁:=[_])) ?_
  refine Dj (n:=i.i) (k:=1) (sz:=2) (news:=KU ⟨Jg (el ts i.i).t.1,c18,(el ts i.i).t.2⟩) rfl rfl Xk XO Xf rfl yK i.hr (Src.row (off:=0) (fun F h9=>h9.2) (fun j v hv=>by rw [Nat.zero_add];show((KU ⟨Jg (el ts i.i).t.1,c18,(el ts i.i).t.2⟩).toArray)[j]?=some v;rw [List.getElem?_toArray];exact hv) rfl) (by omega) (by omega) (jS _) subl_r (fun _ h=>h.1.1.1) (fun v21 ob21 hr21=>?_)
  refine MT (List.perm_append_comm (l₂:=[_]))<|QM (QF rfl)<|Q9<|Qk<|QC<|QB<|QA (Qp rfl rfl (by omega))<|JS_mv rfl<|QE ?_
  exact Ql (⟨i.i+1,v21,ob21,i.out++[⟨Jg (el ts i.i).t.1,c18,(el ts i.i).t.2⟩],hlt,by rw [List.flatMap_append];simpa using hr21,by unfold Jp Xg;rw [Xi hlt,List.map_append,List.map_append];have:=i.ho;unfold Jp Xg at this;rw [this];rfl⟩) (by show ts.length - (i.i+1)<ts.length - i.i;omega) ⟨rfl,rfl,rfl,rfl,trivial⟩ (.cons _ subl_r) (fun F ⟨⟨⟨⟨hB,hT⟩,_⟩,h18⟩,_⟩=>⟨hB,fun t ht=>by
   rcases List.mem_append.1 ht with ht | ht
   ·exact hT t ht
   ·rw [List.mem_singleton.1 ht];exact h18⟩)
 ·
  have hge:i.i=ts.length:=by have:=dec_f hc;omega
  refine Qy ?_
  repeat (first | refine QZ ?_ | refine QV (by rfl) ?_)
  refine Qa<|QC<|QG<|QB ?_
  obtain ⟨r,hv,hrn,hrc,hfix⟩:=Qz.fix (w0:=w) (F0:=F) (bs1:=[]) (G:=_) i.hr
  refine B4 hfix ?_
  rw [hv]
  refine JS_mv rfl<|JS_as rfl<|JS_nt<|QS ?_
  exact QR ((r,i.out)) rfl (.tmp rfl .nil) (rfl) (fun F h9=>⟨by rw [hrn];exact h9.2,h9.1.2,by rw [i.ho,hge,List.take_length],by rw [hrn];exact hrc,by rw [hrn];exact yO hi i.ho⟩)
end
section
open Go.RowKit Ig
theorem Qz.pos {T:TypeId} {sz n:Nat} {v:Value} {cs:List Value} {ob:List (Nat×Obj)} (h:Qz T sz v n cs ob) (hn:0<n):∃ b cap rest,v = .slice (Option.some ⟨b,0,Option.none⟩) n cap∧ob=[(b,.cells (cs++rest).toArray T (0,0))]∧cs.length=n*sz∧cs.length+rest.length=cap*sz∧n≤cap∧cap≤maxLen:=by
 cases h with
 |nil=>omega
 |some h1 h2 h3 h4=>exact⟨_,_,_,rfl,rfl,h1,h2,h3,h4⟩
structure PmO (p q:List XT) where
 i:Nat
 ts:List XT
 le:i≤p.length
 hI:K4 ts (Q8 (JG (p.take i)) (JG q))
structure PmJ (l0:List Tm) (s:Tm) (q:List XT) where
 j:Nat
 ts:List XT
 le:j≤q.length
 hI:K4 ts (l0++Jn s (JG (q.take j)))
structure PmK (n:Nat) (a b:List Int) where
 k:Nat
 L:List Int
 v:Value
 ob:List (Nat×Obj)
 le:k≤b.length
 hr:Qz 3 1 v n (L.map Qx) ob
 hL:L=J0 (a.take k) (b.take k)++a.drop k
theorem Iu {a b:List Int} {k:Nat} (h1:k<a.length) (h2:k<b.length):(J0 (a.take k) (b.take k)++a.drop k).set k (Qb a k+Qb b k)=J0 (a.take (k+1)) (b.take (k+1))++a.drop (k+1):=by
 have hl:(J0 (a.take k) (b.take k)).length=k:=by unfold J0;rw [List.length_zipWith,List.length_take,List.length_take];omega
 have hs:J0 (a.take (k+1)) (b.take (k+1))=J0 (a.take k) (b.take k)++[Qb a k+Qb b k]:=by
  rw [X4 h1,X4 h2,Xx h1,Xx h2]
  unfold J0
  rw [List.zipWith_append (by rw [List.length_take,List.length_take];omega)];rfl
 rw [hs,E4 h1,List.set_append_right _ _ (by omega),hl,Nat.sub_self]
 simp
theorem UA {a b:List Int} {k:Nat} (h1:k<a.length) (h2:k<b.length):Qb (J0 (a.take k) (b.take k)++a.drop k) k=Qb a k:=by
 have hl:(J0 (a.take k) (b.take k)).length=k:=by unfold J0;rw [List.length_zipWith,List.length_take,List.length_take];omega
 have h3:k<(J0 (a.take k) (b.take k)++a.drop k).length:=by rw [List.length_append,hl,List.length_drop];omega
 rw [Xx h3,Xx h1,ZA h3,ZA h1,List.getElem_append_right (by omega)]
 simp [hl]
theorem M0 {p q:List XT} {i:Nat} (h:i<p.length):Q8 (JG (p.take (i+1))) (JG q)=Q8 (JG (p.take i)) (JG q)++Jn (el p i).t (JG q):=by
 rw [Xi h,WG];congr 1;simp [Q8]
theorem OB {p q:List XT} {i j:Nat} (h:i<p.length):ZV (Q8 (JG (p.take i)) (JG q)++Jn (el p i).t (JG (q.take j)))≤ZV (Q8 (JG p) (JG q)):=by
 have e1:JG p=JG (p.take (i+1))++JG (p.drop (i+1)):=by unfold JG;rw [← List.map_append,List.take_append_drop]
 have e2:JG q=JG (q.take j)++JG (q.drop j):=by unfold JG;rw [← List.map_append,List.take_append_drop]
 have h1:ZV (Q8 (JG p) (JG q))=ZV (Q8 (JG (p.take (i+1))++JG (p.drop (i+1))) (JG q)):=by rw [← e1]
 rw [WG,M0 h,XV,XV] at h1
 have h2:ZV (Jn (el p i).t (JG q))=ZV (Jn (el p i).t (JG (q.take j)++JG (q.drop j))):=by rw [← e2]
 rw [Vm,XV] at h2
 rw [XV];omega
theorem Pg (p q:List Tm):(Q8 p q).length=p.length*q.length:=by
 induction p with
 |nil=>simp [Q8]
 |cons s p ih=>rw [Xb,List.length_append,ih,List.length_cons,Nat.add_mul];simp [Jn];omega
theorem zU {a b:Nat} (h:a≤10000) (k:b≤10000):a*b≤100000000:=Nat.mul_le_mul h k
theorem zJ {w:World} {F:Gs} {p q:Wl} {N:Nat} (hF:Fits F w) (hGl:JC F) (hP:Jm F p.1 p.2 (JG p.2)) (hQ:Jm F q.1 q.2 (JG q.2)) (hw:(∀ t∈p.2,t.t.2.length=N)∧∀ t∈q.2,t.t.2.length=N) (hN:N≤1000) (hl:p.2.length≤10000∧q.2.length≤10000)
  (hpw:(∀ t∈p.2,PW t.t.2)∧(∀ t∈q.2,PW t.t.2)∧∀ s∈p.2,∀ t∈q.2,PW (J0 s.t.2 t.t.2)) (hz1:ZV (JG p.2)≤20000000∧ZV (JG q.2)≤20000000) (hz:ZV (Q8 (JG p.2) (JG q.2))≤40000000) :
  QT Tryz.prog 223 [p.1.v,q.1.v] w F (fun(c:Wl)=>c.1.v) (fun c F=>Jm F c.1 c.2 (JQ (Q8 (JG p.2) (JG q.2)))):=by
 have hpn:=hP.2.2.2.2
 have hqn:=hQ.2.2.2.2
 dsimp only [Sr.v]
 refine QT.intro (G:=fun F=>JC F∧Jm F p.1 p.2 (JG p.2)∧Jm F q.1 q.2 (JG q.2)) Tryz.func223 rfl (by rfl) rfl rfl hF (fun F' hF'=>⟨hGl.le hF',hP.le hF',hQ.le hF'⟩)<|J_sr<|JS_as rfl<|JS_nt<|J_sr<|VS tx (fun m=>JS_as rfl<|JS_nt<|QG<|J_sr<|JS_mv rfl<|QA (Qi rfl J1)<|JS_mv rfl<|JS_nt<|QX<|Jw (ι:=PmO p.2 q.2) [(1,_),(5,_),(14,_),(15,_)] (fun i=>[(16,.int .i64 ((i.i:Nat):Int))]) (fun i=>[(m,X5 tx (Wa i.ts))]) (fun i F=>VY F i.ts) (fun i=>p.2.length - i.i) (⟨0,[],Nat.zero_le _,K4.nil⟩) ⟨rfl,rfl,rfl,rfl,trivial⟩ ⟨rfl,trivial⟩ subl_r (fun _ _ _ h=>by cases h) (fun i=>?_))
 simp only [List.cons_append,List.nil_append]
 have hi:=i.le
 refine J_sr<|QA (QU rfl rfl rfl)<|JS_nt<|QG ?_
 refine QP rfl (fun hc=>?_) (fun hc=>?_)
 ·
  have hlt:i.i<p.2.length:=by have:=dec_t hc;omega
  have hta:=JN hlt
  have hna:=hw.1 _ hta
  have hra:=(hP.2.1 _ hta).2.2.1
  refine QO<|QC<|QG<|QX<|J_sr<|QA (JK (n:=p.1.n) (i.i) (fun F h9=>(h9.1.2.1).1) rfl rfl J1 JZ (by omega))<|QA (Xq (n:=p.1.n) (vs:=[.int .i64 (el p.2 (i.i)).x.n.s,.slice (el p.2 (i.i)).x.n.q (el p.2 (i.i)).x.n.n (el p.2 (i.i)).x.n.cap,.int .i64 (el p.2 (i.i)).x.d.s,.slice (el p.2 (i.i)).x.d.q (el p.2 (i.i)).x.d.n (el p.2 (i.i)).x.d.cap,.slice (el p.2 (i.i)).r.q (el p.2 (i.i)).r.n (el p.2 (i.i)).r.cap]) ((i.i)*5) (fun F h9=>(h9.1.2.1).1) (by omega) rfl JZ rfl (fun j v hv=>J2 (f:=YY) (l:=p.2) YE (by omega) hv))<|Qf Zb (fun b7=>QQ (vs:=[_,_,_,_,_]) rfl rfl rfl JZ rfl .here (.here (.here (.here (.here (.here .nil))))) ⟨rfl,rfl,rfl,rfl,rfl,trivial⟩<|JS_nt<|J_sr<|JS_mv rfl<|QA (Qi rfl J1)<|JS_mv rfl<|JS_nt<|QX<|Jw (ι:=PmJ (Q8 (JG (p.2.take i.i)) (JG q.2)) (el p.2 i.i).t q.2) [(1,_),(5,_),(7,_),(14,_),(15,_),(16,_),(20,_),(21,_)] (fun i2=>[(22,.int .i64 ((i2.j:Nat):Int))]) (fun i2=>[(b7,.cells (YY (el p.2 i.i)).toArray 165 (0,0)),(m,X5 tx (Wa i2.ts))]) (fun i2 F=>VY F i2.ts) (fun i2=>q.2.length - i2.j) (⟨0,i.ts,Nat.zero_le _,by simpa [JG,Jn] using i.hI⟩) ⟨rfl,rfl,rfl,rfl,rfl,rfl,rfl,rfl,trivial⟩ ⟨rfl,trivial⟩ subl_r (fun _ h=>h.2) (fun i2=>?_))
  simp only [List.cons_append,List.nil_append]
  have hj:=i2.le
  refine J_sr<|QA (QU rfl rfl rfl)<|JS_nt<|QG ?_
  refine QP rfl (fun hc=>?_) (fun hc=>?_)
  ·
   have hlt2:i2.j<q.2.length:=by have:=dec_t hc;omega
   have htb:=JN hlt2
   have hnb:=hw.2 _ htb
   have hrb:=(hQ.2.1 _ htb).2.2.1
   have hzz:=OB (q:=q.2) (j:=i2.j) hlt
   have hza:JO (el p.2 i.i).t.1≤ZV (JG p.2):=BE (List.mem_map_of_mem hta)
   have hzb:JO (el q.2 i2.j).t.1≤ZV (JG q.2):=BE (List.mem_map_of_mem htb)
   refine QO<|QC<|QG<|QX<|J_sr<|QA (JK (n:=q.1.n) (i2.j) (fun F h9=>(h9.1.1.2.2).1) rfl rfl J1 JZ (by omega))<|QA (Xq (n:=q.1.n) (vs:=[.int .i64 (el q.2 (i2.j)).x.n.s,.slice (el q.2 (i2.j)).x.n.q (el q.2 (i2.j)).x.n.n (el q.2 (i2.j)).x.n.cap,.int .i64 (el q.2 (i2.j)).x.d.s,.slice (el q.2 (i2.j)).x.d.q (el q.2 (i2.j)).x.d.n (el q.2 (i2.j)).x.d.cap,.slice (el q.2 (i2.j)).r.q (el q.2 (i2.j)).r.n (el q.2 (i2.j)).r.cap]) ((i2.j)*5) (fun F h9=>(h9.1.1.2.2).1) (by omega) rfl JZ rfl (fun j v hv=>J2 (f:=YY) (l:=q.2) YE (by omega) hv))<|Qf Zb (fun b9=>QQ (vs:=[_,_,_,_,_]) rfl rfl rfl JZ rfl .here (.here (.here (.here (.here (.here .nil))))) ⟨rfl,rfl,rfl,rfl,rfl,trivial⟩<|JS_nt<|J_sr<|QA (QI rfl X1 Qv)<|QA (Qo rfl Qv (.there .here) (.skip (.skip (.skip (.skip (.here .nil))))))<|XL rfl (List.Perm.refl _) (SJ (r:=(el p.2 i.i).r) (l:=(el p.2 i.i).t.2) (fun F h9=>(h9.1.1.2.1.2.1 _ hta).2) hra (by omega)) (fun c28=>JH _ (fun w F hF h=>h.2) (fun h28=>JS_as rfl<|JS_nt<|QG<|J_sr<|QA (QI rfl X1 Qv) ?_)))
   refine QA (Qo rfl Qv .here (.skip (.skip (.skip (.skip (.here .nil))))))<|QA (Qi rfl Qd)<|JS_mv rfl<|JS_nt<|QX<|Jw (ι:=PmK (el p.2 i.i).r.n (el p.2 i.i).t.2 (el q.2 i2.j).t.2) [(1,_),(5,_),(7,_),(9,_),(14,_),(15,_),(16,_),(20,_),(21,_),(22,_),(30,_),(31,_)] (fun i3=>[(10,i3.v),(32,.int .i64 ((i3.k:Nat):Int))]) (fun i3=>[(b9,.cells (YY (el q.2 i2.j)).toArray 165 (0,0)),(b7,.cells (YY (el p.2 i.i)).toArray 165 (0,0)),(m,X5 tx (Wa i2.ts))]++i3.ob) (fun i3 F=>True) (fun i3=>(el q.2 i2.j).t.2.length - i3.k) (⟨0,(el p.2 i.i).t.2,c28.1,c28.2,Nat.zero_le _,h28,by simp [J0]⟩) ⟨rfl,rfl,rfl,rfl,rfl,rfl,rfl,rfl,rfl,rfl,rfl,rfl,trivial⟩ ⟨rfl,rfl,trivial⟩ subl_r (fun _ _=>trivial) (fun i3=>?_)
   simp only [List.cons_append,List.nil_append]
   have hk:=i3.le
   refine J_sr<|QA (QU rfl rfl rfl)<|JS_nt<|QG ?_
   refine QP rfl (fun hc=>?_) (fun hc=>?_)
   ·
    obtain ⟨k,L,v,ob,hk0,hr,hL⟩:=i3
    dsimp only at hk hc ⊢
    have hlt3:k<(el q.2 i2.j).t.2.length:=by have:=dec_t hc;omega
    have hka:k<(el p.2 i.i).t.2.length:=by omega
    have hLn:L.length=(el p.2 i.i).t.2.length:=by rw [hL];unfold J0;simp;omega
    have hb1:=(hpw.1 _ hta).el hka
    have hb2:=(hpw.2.1 _ htb).el hlt3
    obtain ⟨b,cap,rest,rfl,rfl,e1,e2,e3,e4⟩:=Qz.pos hr (by omega)
    have hdL:Qb L k=Qb (el p.2 i.i).t.2 k:=by rw [hL];exact UA hka hlt3
    refine QO<|QC<|QG<|QX<|J_sr<|JS_mv rfl<|QA (JK (n:=(el q.2 i2.j).r.n) k (fun F h9=>(h9.1.1.1.1.2.2.2.1 _ htb).2.1) rfl rfl Qd Qs (by omega))<|QA (JM (n:=(el q.2 i2.j).r.n) (k*1) (fun F h9=>(h9.1.1.1.1.2.2.2.1 _ htb).2.1) (by omega) rfl Qs (JJ (o:=(el q.2 i2.j).t.2) (by omega)))<|JS_as rfl<|JS_as rfl<|JS_nt<|QB<|JS_mv rfl<|JS_mv rfl<|QA (Qw (i:=k) rfl rfl Qd Qs (by omega))<|QA (YN (c:=(L).map Qx++rest) (T':=3) rfl Qs (.there (.there (.there .here))) (Zh (by first | omega | (simp only [List.length_set];omega))))<|JS_mv rfl<|QA (Qp rfl rfl (by omega))<|QA (Qw (i:=k) rfl rfl Qd Qs (by omega))<|QQ (vs:=[_]) rfl rfl rfl Qs rfl (.there (.there (.there .here))) (VK (by first | omega | (simp only [List.length_set];omega)) ((Qb (L) (k)+Qb (el q.2 i2.j).t.2 k))) ⟨rfl,trivial⟩<|QE<|Qk<|QC ?_
    refine QB<|QA (Qp rfl rfl (by omega))<|JS_mv rfl<|QE ?_
    exact Ql (⟨k+1,_,_,_,hlt3,Qz.some (by simpa using e1) (by simpa using e2) e3 e4,by rw [hL,UA hka hlt3];exact Iu hka hlt3⟩) (by show(el q.2 i2.j).t.2.length - (k+1)<(el q.2 i2.j).t.2.length - k;omega) ⟨rfl,rfl,rfl,rfl,rfl,rfl,rfl,rfl,rfl,rfl,rfl,rfl,rfl,rfl,trivial⟩ subl_r (fun F h=>⟨h.1,trivial⟩)
   ·
    have hge3:i3.k=(el q.2 i2.j).t.2.length:=by have:=dec_f hc;omega
    have hLe:i3.L=J0 (el p.2 i.i).t.2 (el q.2 i2.j).t.2:=by
     have h1:=i3.hL
     rw [hge3,List.take_length] at h1
     rw [h1,List.take_of_length_le (by omega),List.drop_of_length_le (by omega),List.append_nil]
    have hLn:(J0 (el p.2 i.i).t.2 (el q.2 i2.j).t.2).length=(el p.2 i.i).r.n:=by rw [Yx (by omega)];exact hra
    refine Qy ?_
    repeat (first | refine QZ ?_ | refine QV (by rfl) ?_)
    refine Qa<|QC<|QB<|JS_mv rfl<|QA (QI rfl Zm Qe)<|QA (QL (vs:=[_,_,_,_]) rfl Qe (.there .here) (.here (.here (.here (.here .nil)))) rfl)<|QA (QI rfl Zm Qe)<|QA (QL (vs:=[_,_,_,_]) rfl Qe .here (.here (.here (.here (.here .nil)))) rfl)<|QH rfl (fun w F hF h9=>KK hF ((h9.1.1.1.1.2.1.2.1 _ hta).1) ((h9.1.1.1.1.2.2.2.1 _ htb).1) (by omega) (by omega)) (fun x50=>JS_mv rfl ?_)
    obtain ⟨r,hv,hrn,hrc,hfix⟩:=Qz.fix (w0:=w) (F0:=F) (bs1:=[(b9,.cells (YY (el q.2 i2.j)).toArray 165 (0,0)),(b7,.cells (YY (el p.2 i.i)).toArray 165 (0,0)),(m,X5 tx (Wa i2.ts))]) (G:=_) i3.hr
    refine B4 hfix ?_
    rw [hv]
    refine X9 (List.perm_middle (l₁:=[_,_]) (l₂:=[]))<|XL rfl (List.Perm.refl _) (BI (r:=r) (x:=x50) i2.hI (hpw.2.2 _ hta _ htb) (by have:=XJ (el p.2 i.i).t.1 (el q.2 i2.j).t.1;omega) (by omega) (fun F h9=>⟨h9.1.1.1.1.1.1.1,h9.1.1.1.1.2,⟨h9.1.2.1,h9.1.2.2⟩,by rw [hrn,← hLe];exact h9.2,by rw [hrn];exact hLn,by rw [hrn];exact hrc⟩)) (fun n52=>JH _ (fun w F hF h=>h.2.2) (fun h52=>X9 (bs':=[_,_,_]) (List.perm_middle (l₁:=[_,_]) (l₂:=[])).symm<|QE<|Qk<|QC<|QB<|QA (Qp rfl rfl (by omega))<|JS_mv rfl<|QE ?_))
    exact Ql (⟨i2.j+1,addN i2.ts n52,hlt2,by rw [Xi hlt2,Vm,← List.append_assoc];exact i2.hI.add (hpw.2.2 _ hta _ htb) h52⟩) (by show q.2.length - (i2.j+1)<q.2.length - i2.j;omega) ⟨rfl,rfl,rfl,rfl,rfl,rfl,rfl,rfl,rfl,trivial⟩ (.cons _ subl_r) (fun F h=>⟨h.1.1.1.1.1.1,h.2.1⟩)
  ·
   have hge2:i2.j=q.2.length:=by have:=dec_f hc;omega
   refine Qy ?_
   repeat (first | refine QZ ?_ | refine QV (by rfl) ?_)
   refine Qa<|Qk<|QC<|QB<|QA (Qp rfl rfl (by omega))<|JS_mv rfl<|QE ?_
   exact Ql (⟨i.i+1,i2.ts,hlt,by rw [M0 hlt];have:=i2.hI;rw [hge2,List.take_length] at this;exact this⟩) (by show p.2.length - (i.i+1)<p.2.length - i.i;omega) ⟨rfl,rfl,rfl,rfl,rfl,trivial⟩ (.cons _ subl_r) (fun F h=>⟨h.1.1,h.2⟩)
 ·
  have hge:i.i=p.2.length:=by have:=dec_f hc;omega
  refine Qy ?_
  repeat (first | refine QZ ?_ | refine QV (by rfl) ?_)
  refine Qa<|QC<|J_sr<|JS_mv rfl ?_
  have hI:=i.hI
  rw [hge,List.take_length] at hI
  refine XL rfl (List.Perm.refl _) (GS hI (by have h1:=hI.ln;rw [Pg] at h1;simp only [JG,List.length_map] at h1;have h2:=zU hl.1 hl.2;omega) (fun F h=>h.2)) (fun c56=>JS_as rfl<|JS_nt<|QS ?_)
  exact QR (c56) rfl (.tmp rfl .nil) (rfl) (fun F h=>h.2)
end
section
open Go.RowKit Ig
def FJ:List Tm→Int
 |[]=>0
 |t::_=>t.2.sum
def V0 (l:List Tm):Bool:=l.any fun t=>XP t.1
def NK:List Bool→Int→Int
 |[],_=>-1
 |b::l,i=>if b then i else NK l (i+1)
theorem To:∀ (l:List Bool) (i:Int),0≤i→(decide (0≤NK l i)=l.any id)
 |[],i,_=>rfl
 |true::l,i,h=>by simp [NK,h]
 |false::l,i,h=>by simpa [NK] using To l (i+1) (by omega)
structure Af (bl:List Bool) where
 i:Nat
 le:i≤bl.length
 h:NK bl 0=NK (bl.drop i) i
theorem Af.hit {bl:List Bool} (s:Af bl) (h:s.i<bl.length) (e:bl[s.i]=true):NK bl 0=s.i:=by
 rw [s.h,List.drop_eq_getElem_cons h,e];rfl
theorem Af.uV {bl:List Bool} (s:Af bl) (h:s.i<bl.length) (e:bl[s.i]=false):NK bl 0=NK (bl.drop (s.i+1)) ((s.i+1:Nat):Int):=by
 rw [s.h,List.drop_eq_getElem_cons h,e];rfl
theorem Af.stop {bl:List Bool} (s:Af bl) (h:bl.length≤s.i):NK bl 0 = -1:=by
 rw [s.h,List.drop_of_length_le h];rfl
theorem Yy (ts:List XT):(JG ts).length=ts.length:=by simp [JG]
theorem Al {ts:List XT} {i:Nat} (h:i<ts.length) (hb:i<((JG ts).map fun t=>XP t.1).length):((JG ts).map fun t=>XP t.1)[i]=XP (el ts i).t.1:=by
 simp [JG,ZA h]
theorem zM {w:World} {F:Gs} {q:Option Addr} {n cap:Nat} {ts:List XT} (hF:Fits F w) (hP:Jm F ⟨q,n,cap⟩ ts (JG ts)) (hp:∀ t∈ts,PW t.t.2) (hl:ts.length≤1000000):Qc Tryz.prog 219 [.slice q n cap] w F (.int .i64 (FJ (JG ts))):=by
 have hln:ts.length=n:=hP.2.2.2.2
 refine QT.intro (G:=fun F=>Jm F ⟨q,n,cap⟩ ts (JG ts)) Tryz.func219 rfl (by rfl) rfl rfl hF (fun F' hF'=>hP.le hF')<|J_sr<|JS_as rfl<|JS_nt<|QG<|J_sr<|JS_mv rfl<|QA (Qi rfl J1)<|QA (QU rfl rfl rfl)<|QE<|QC ?_
 refine QP rfl (fun hc=>?_) (fun hc=>?_)
 ·
  have h0:ts=[]:=by have:=dec_t hc;exact List.length_eq_zero_iff.1 (by omega)
  refine J_sr<|JS_as rfl<|JS_nt<|QS ?_
  exact F_r1 rfl rfl (by rw [h0];rfl) (fun F hP=>trivial)
 ·
  have h0:0<ts.length:=by have:=dec_f hc;omega
  have htm:=JN h0
  refine QO<|QC<|J_sr<|JS_mv rfl<|QA (JK (n:=n) (0) (fun F hP=>(hP).1) rfl (congrArg (fun z:Int=>some (Value.int .i64 z)) (by omega)) J1 JZ (by omega))<|QA (QI rfl X1 Qv)<|QA (JM (n:=n) ((0)*5+4) (fun F hP=>(hP).1) (by omega) rfl Qv (J2 (f:=YY) (l:=ts) YE (by omega) rfl))<|QH rfl (fun w F hF hP=>DM hF (r:=(el ts 0).r) (hP.2.1 _ htm).2 (hp _ htm)) (fun _=>JS_as rfl<|JS_nt<|QS ?_)
  exact F_r1 rfl rfl (congrArg (Value.int .i64) (by cases ts with | nil=>cases h0 | cons t l=>rfl)) (fun F h9=>trivial)
theorem Fz {w:World} {F:Gs} {t:XT} (hF:Fits F w) (hGl:JC F) (hT:SY F t) (hz:JO t.t.1≤100000000):Qc Tryz.prog 269 [U9 t] w F (.bool (XP t.t.1)):=by
 refine QT.intro (G:=fun F=>JC F∧SY F t) Tryz.func269 rfl (by rfl) rfl rfl hF (fun F' hF'=>⟨hGl.le hF',hT.le hF'⟩)<|J_sr<|Q5 rfl (vs:=[_,_,_,_,_]) rfl (fun b1=>JS_as rfl<|JS_nt<|J_sr<|QA (QI rfl Zm Qe)<|QA (QL (vs:=[_,_,_,_]) rfl Qe .here (.here (.here (.here (.here .nil)))) rfl)<|QH rfl (fun w F hF h9=>Bh hF h9.1 (h9.2.1) (hz)) (fun _=>JS_as rfl<|JS_nt<|QS ?_))
 exact F_r1 rfl rfl (rfl) (fun F h9=>trivial)
theorem OI {w:World} {F:Gs} {q:Option Addr} {n cap:Nat} {ts:List XT} (hF:Fits F w) (hP:Jm F ⟨q,n,cap⟩ ts (JG ts)) (hGl:JC F) (hz:∀ t∈ts,JO t.t.1≤100000000) (hl:ts.length≤1000000):Qc Tryz.prog 295 [.slice q n cap,.func (.func 269) #[] #[]] w F (.int .i64 (NK ((JG ts).map fun t=>XP t.1) 0)):=by
 have hln:ts.length=n:=hP.2.2.2.2
 have hbl:((JG ts).map fun t=>XP t.1).length=ts.length:=by simp [JG]
 refine QT.intro (G:=fun F=>JC F∧Jm F ⟨q,n,cap⟩ ts (JG ts)) Tryz.func295 rfl (by rfl) rfl rfl hF (fun F' hF'=>⟨hGl.le hF',hP.le hF'⟩)<|J_sr<|JS_as rfl<|JS_nt<|QG<|J_sr<|JS_mv rfl<|QA (Qi rfl J1)<|JS_mv rfl<|JS_nt<|QX<|ZT (ι:=Af ((JG ts).map fun t=>XP t.1)) [(0,_),(1,_),(7,_)] (fun i=>[(8,.int .i64 ((i.i:Nat):Int))]) (fun i=>ts.length - i.i) (⟨0,Nat.zero_le _,rfl⟩) ⟨rfl,rfl,rfl,trivial⟩ ⟨rfl,trivial⟩ (fun i=>?_)
 simp only [List.cons_append,List.nil_append]
 have hi:=i.le
 refine J_sr<|QA (QU rfl rfl rfl)<|JS_nt<|QG ?_
 refine QP rfl (fun hc=>?_) (fun hc=>?_)
 ·
  have hlt:i.i<ts.length:=by have:=dec_t hc;omega
  have htm:=JN hlt
  refine QO<|QC<|QG<|QX<|J_sr<|JS_mv rfl<|JS_as rfl<|JS_nt<|J_sr<|JS_mv rfl<|JS_mv rfl<|JS_mv rfl<|QA (JK (n:=n) (i.i) (fun F h9=>(h9.2).1) rfl rfl J1 JZ (by omega))<|QA (Xq (n:=n) (vs:=[.int .i64 (el ts (i.i)).x.n.s,.slice (el ts (i.i)).x.n.q (el ts (i.i)).x.n.n (el ts (i.i)).x.n.cap,.int .i64 (el ts (i.i)).x.d.s,.slice (el ts (i.i)).x.d.q (el ts (i.i)).x.d.n (el ts (i.i)).x.d.cap,.slice (el ts (i.i)).r.q (el ts (i.i)).r.n (el ts (i.i)).r.cap]) ((i.i)*5) (fun F h9=>(h9.2).1) (by omega) rfl JZ rfl (fun j v hv=>J2 (f:=YY) (l:=ts) YE (by omega) hv))<|GN (c1:=[]) (c2:=[]) rfl rfl (fun w F hF h9=>Fz hF h9.1 (t:=el ts i.i) (h9.2.2.1 _ htm) (hz _ htm)) (fun _=>QE<|QC ?_)
  refine QP rfl (fun hc=>?_) (fun hc=>?_)
  ·
   refine J_sr<|JS_mv rfl<|JS_as rfl<|JS_nt<|QS ?_
   repeat (first | refine JE ?_ | refine Q3 ?_)
   exact F_r1 rfl rfl (congrArg (Value.int .i64) (i.hit (by omega) (by rw [Al hlt];exact hc))) (fun F h9=>trivial)
  ·
   refine QO<|Qk<|QC<|QB<|QA (Qp rfl rfl (by omega))<|JS_mv rfl<|QE ?_
   exact Ql (⟨i.i+1,by omega,i.uV (by omega) (by rw [Al hlt];exact hc)⟩) (by show ts.length - (i.i+1)<ts.length - i.i;omega) ⟨rfl,rfl,rfl,rfl,trivial⟩ subl_r (fun F h=>h.1)
 ·
  have hge:ts.length≤i.i:=by have:=dec_f hc;omega
  refine Qy ?_
  repeat (first | refine QZ ?_ | refine QV (by rfl) ?_)
  refine Qa<|QC<|J_sr<|JS_as rfl<|JS_nt<|QS ?_
  exact F_r1 rfl rfl (congrArg (Value.int .i64) (i.stop (by omega))) (fun F h9=>trivial)
theorem TG {w:World} {F:Gs} {q:Option Addr} {n cap:Nat} {ts:List XT} (hF:Fits F w) (hP:Jm F ⟨q,n,cap⟩ ts (JG ts)) (hGl:JC F) (hz:∀ t∈ts,JO t.t.1≤100000000) (hl:ts.length≤1000000):Qc Tryz.prog 268 [.slice q n cap,.func (.func 269) #[] #[]] w F (.bool (V0 (JG ts))):=by
 refine QT.intro (G:=fun F=>JC F∧Jm F ⟨q,n,cap⟩ ts (JG ts)) Tryz.func268 rfl (by rfl) rfl rfl hF (fun F' hF'=>⟨hGl.le hF',hP.le hF'⟩)<|J_sr<|JS_as rfl<|JS_nt<|J_sr<|JS_mv rfl<|JS_mv rfl<|QH rfl (fun w F hF h9=>OI hF (h9.2) (h9.1) (hz) (hl)) (fun _=>QA (QU rfl rfl rfl)<|JS_as rfl<|JS_nt<|QS ?_)
 exact F_r1 rfl rfl (congrArg Value.bool (by rw [show V0 (JG ts)=((JG ts).map fun t=>XP t.1).any id by simp [V0,List.any_map],← To _ 0 (Int.le_refl _)])) (fun F h9=>trivial)
theorem OF {w:World} {F:Gs} {q:Option Addr} {n cap:Nat} {ts:List XT} (hF:Fits F w) (hP:Jm F ⟨q,n,cap⟩ ts (JG ts)) (hGl:JC F) (hz:∀ t∈ts,JO t.t.1≤100000000) (hl:ts.length≤1000000):Qc Tryz.prog 220 [.slice q n cap] w F (.bool (V0 (JG ts))):=by
 refine QT.intro (G:=fun F=>JC F∧Jm F ⟨q,n,cap⟩ ts (JG ts)) Tryz.func220 rfl (by rfl) rfl rfl hF (fun F' hF'=>⟨hGl.le hF',hP.le hF'⟩)<|J_sr<|JS_as rfl<|JS_nt<|J_sr<|JS_mv rfl<|QH rfl (fun w F hF h9=>TG hF (h9.2) (h9.1) (hz) (hl)) (fun _=>JS_as rfl<|JS_nt<|QS ?_)
 exact F_r1 rfl rfl (rfl) (fun F h9=>trivial)
end
section
open Go.RowKit Ig
def WZ (l:List Tm):Int:=Qm [if decide (FJ l>12)=true then 4 else 0,if decide ((l.length:Int)>64)=true then 5 else 0,if V0 l=true then 4 else 0]
def Gr (l:List Tm):Pt:=if WZ l=0 then Xg l else []
theorem ZR.nil (F:Gs):ZR F ⟨none,0,0⟩ [] []:=⟨Q4.nil F none 2,(fun _ h=>by cases h),rfl,Nat.le_refl _,rfl⟩
theorem WY {w:World} {F:Gs} {q:Option Addr} {n cap:Nat} {ts:List XT} (hF:Fits F w) (hP:Jm F ⟨q,n,cap⟩ ts (JG ts)) (hGl:JC F) (hp:∀ t∈ts,PW t.t.2) (hz:∀ t∈ts,JO t.t.1≤100000000) (hl:ts.length≤1000000) :
  QT Tryz.prog 137 [.slice q n cap] w F (fun(c:Yw)=>.tuple #[c.1.v,.int .i64 (WZ (JG ts))]) (fun c F=>ZR F c.1 c.2 (Gr (JG ts))):=by
 have hln:ts.length=n:=hP.2.2.2.2
 have hlen:(JG ts).length=n:=by rw [Yy];exact hln
 have hre:WZ (JG ts)=Qm [if decide (FJ (JG ts)>12)=true then 4 else 0,if decide ((n:Int)>64)=true then 5 else 0,if V0 (JG ts)=true then 4 else 0]:=by unfold WZ;rw [hlen]
 refine QT.intro (G:=fun F=>JC F∧Jm F ⟨q,n,cap⟩ ts (JG ts)) Tryz.func137 rfl (by rfl) rfl rfl hF (fun F' hF'=>⟨hGl.le hF',hP.le hF'⟩)<|J_sr<|JS_as rfl<|JS_as rfl<|JS_nt<|QG<|J_sr<|JS_mv rfl<|QH rfl (fun w F hF h9=>zM hF (h9.2) (hp) (hl)) (fun _=>QA (QU rfl rfl rfl)<|QH rfl (fun w F hF h9=>Zn hF ) (fun _=>JS_mv rfl<|QA (Qi rfl J1)<|QA (QU rfl rfl rfl)<|QH rfl (fun w F hF h9=>Zn hF ) (fun _=>JS_mv rfl<|QH rfl (fun w F hF h9=>OF hF (h9.1.1.1.2) (h9.1.1.1.1) (hz) (hl)) (fun _=>QH rfl (fun w F hF h9=>Zn hF ) (fun _=>QW rfl (Q7 Zj) Y1 H7 rfl rfl (fun b16=>QH rfl (fun w F hF h9=>Z5 hF (Q4.of (cs:=List.map Qx [if decide (FJ (JG ts)>12)=true then 4 else 0,if decide ((n:Int)>64)=true then 5 else 0,if V0 (JG ts)=true then 4 else 0]) h9.2 rfl) (by decide)) (fun _=>JS_as rfl<|QE ?_)))))))
 refine QC<|J_sr<|JS_mv rfl<|QA (QU rfl rfl rfl)<|QE<|QC ?_
 refine QP rfl (fun hc=>?_) (fun hc=>?_)
 ·
  have he:WZ (JG ts)≠0:=by rw [hre];exact bne_iff_ne.1 hc
  refine J_sr<|JS_mv rfl<|JS_as rfl<|JS_as rfl<|JS_nt<|QS ?_
  exact JX ((⟨none,0,0⟩,[])) rfl (.tmp rfl (.tmp rfl .nil)) (by rw [hre]) (fun F h9=>by unfold Gr;rw [if_neg he];exact ZR.nil F)
 ·
  have he:WZ (JG ts)=0:=by rw [hre];exact bne_eq_false_iff_eq.1 hc
  refine QO<|QC<|J_sr<|JS_mv rfl<|QH rfl (fun w F hF h9=>qD hF h9.1.1.1.1.1.1.1.1 (p:=(⟨q,n,cap⟩,ts)) h9.1.1.1.1.1.1.1.2 hp hl hz) (fun c22=>JS_as rfl<|JS_as rfl<|JS_nt<|QS ?_)
  exact JX (c22) rfl (.tmp rfl (.tmp rfl .nil)) (by rw [he]) (fun F h9=>by unfold Gr;rw [if_pos he];exact h9.2)
end
section
open Go.RowKit Ig
def ZM (v:Int):Int:=if decide (v<0)=true∨decide (v>24)=true then 3 else 0
theorem Yd (v:Int):ZM v=0↔0≤v∧v≤24:=by unfold ZM;simp only [decide_eq_true_eq];split<;>omega
theorem Ie {v:Int} (h:¬ v<0):ZM v=if decide (v>24)=true then 3 else 0:=by unfold ZM;simp [h]
def Kd (l:List Int):Int:=(l.map fun k=>if 13<k then 13 else k).sum
def Zy (f:List UInt8) (l:List Int) (v:Int):Int :=
 if(l.length:Int)≠v+1 then 2 else if l.any (fun k=>decide (k<0))=true then 3 else Qm [if decide (Kd l>12)=true then 4 else 0,Ja f]
theorem UN {l:List Int} {i:Nat} (h:i<l.length):Kd (l.take (i+1))=Kd (l.take i)+(if 13<Qb l i then 13 else Qb l i):=by
 unfold Kd;rw [X4 h,List.map_append,List.sum_append,Xx h];simp
theorem Ht (l:List Int) (h:∀ k∈l,0≤k):0≤Kd l∧Kd l≤13*l.length:=by
 induction l with
 |nil=>simp [Kd]
 |cons x l ih =>
  have h1:=ih fun k hk=>h k (by simp [hk])
  have h2:=h x (by simp)
  have e:Kd (x::l)=(if 13<x then 13 else x)+Kd l:=by unfold Kd;rw [List.map_cons,List.sum_cons]
  rw [e,List.length_cons];split<;>omega
structure pV (l:List Int) where
 i:Nat
 le:i≤l.length
 nn:∀ k∈l.take i,0≤k
theorem LH {l:List Int} {i:Nat} (h:i<l.length) (hn:Qb l i<0):l.any (fun k=>decide (k<0))=true:=by
 rw [List.any_eq_true];exact⟨el l i,JN h,by rw [← Xx h];exact decide_eq_true hn⟩
theorem jU {l:List Int} (h:∀ k∈l,0≤k):¬ l.any (fun k=>decide (k<0))=true:=by
 rw [List.any_eq_true];rintro ⟨k,hk,e⟩;have:=dec_t e;have:=h k hk;omega
theorem Gh {w:World} {F:Gs} {v:Int} (hF:Fits F w):Qc Tryz.prog 141 [.int .i64 v] w F (.int .i64 (ZM v)):=by
 refine QT.intro (G:=fun F=>True) Tryz.func141 rfl (by rfl) rfl rfl hF (fun F' hF'=>trivial)<|J_sr<|JS_as rfl<|JS_nt<|J_sr<|JS_mv rfl<|QA (QU rfl rfl rfl)<|JS_mv rfl ?_
 refine Qn (t:=5) rfl (fun hb5=>?_) (fun hb5=>?_)
 ·
  refine QN rfl rfl rfl<|QN rfl rfl rfl<|QA (Qj rfl rfl rfl)<|QH rfl (fun w F hF _=>Zn hF ) (fun _=>JS_as rfl<|JS_nt<|QS ?_)
  exact F_r1 rfl rfl (congrArg (Value.int .i64) (by unfold ZM;simp_all)) (fun F h9=>trivial)
 ·
  refine QJ rfl rfl<|JS_mv rfl<|QJ rfl rfl<|QA (QU rfl rfl rfl)<|QA (Qh rfl rfl rfl)<|QH rfl (fun w F hF _=>Zn hF ) (fun _=>JS_as rfl<|JS_nt<|QS ?_)
  exact F_r1 rfl rfl (congrArg (Value.int .i64) (Ie (dec_f hb5))) (fun F h9=>trivial)
theorem jE {w:World} {F:Gs} {f:List UInt8} {q:Option Addr} {n cap:Nat} {l:List Int} {v:Int} (hF:Fits F w) (hGl:JC F) (hR:JL F ⟨q,n,cap⟩ l) (hf:f.length≤1000000) (hl:l.length≤1000000) (hv : -1000000≤v∧v≤1000000):Qc Tryz.prog 155 [.agg #[tx f,.slice q n cap],.int .i64 v] w F (.int .i64 (Zy f l v)):=by
 have hln:l.length=n:=hR.2.1
 refine QT.intro (G:=fun F=>JC F∧JL F ⟨q,n,cap⟩ l) Tryz.func155 rfl (by rfl) rfl rfl hF (fun F' hF'=>⟨hGl.le hF',hR.le hF'⟩)<|J_sr<|Q5 rfl (vs:=[_,_]) rfl (fun b2=>JS_as rfl<|JS_nt<|QG<|J_sr<|QA (QI rfl Yp Qv)<|QA (Qo rfl Qv .here (.skip (.here .nil)))<|QA (Qi rfl Qd)<|JS_mv rfl<|QA (Qp rfl rfl (by omega))<|QA (QU rfl rfl rfl)<|QE<|QC ?_)
 refine QP rfl (fun hc=>?_) (fun hc=>?_)
 ·
  have hne:=bne_iff_ne.1 hc
  refine J_sr<|JS_as rfl<|JS_nt<|QS ?_
  exact F_r1 rfl rfl (congrArg (Value.int .i64) (by unfold Zy;rw [if_pos (by rw [hln];exact hne)])) (fun F h9=>trivial)
 ·
  have heq:=bne_eq_false_iff_eq.1 hc
  refine QO<|QC<|J_sr<|JS_as rfl<|JS_nt<|QG<|J_sr<|QA (QI rfl Yp Qv)<|QA (Qo rfl Qv .here (.skip (.here .nil)))<|QA (Qi rfl Qd)<|JS_mv rfl<|JS_nt<|QX<|ZT (ι:=pV l) [(2,_),(15,_),(16,_)] (fun i=>[(5,.int .i64 (Kd (l.take i.i))),(17,.int .i64 ((i.i:Nat):Int))]) (fun i=>l.length - i.i) (⟨0,Nat.zero_le _,by simp⟩) ⟨rfl,rfl,rfl,trivial⟩ ⟨rfl,rfl,trivial⟩ (fun i=>?_)
  simp only [List.cons_append,List.nil_append]
  have hi:=i.le
  have hb:=Ht _ i.nn
  rw [List.length_take] at hb
  refine J_sr<|QA (QU rfl rfl rfl)<|JS_nt<|QG ?_
  refine QP rfl (fun hc=>?_) (fun hc=>?_)
  ·
   have hlt:i.i<l.length:=by have:=dec_t hc;omega
   refine QO<|QC<|QG<|QX<|J_sr<|QA (JK (n:=n) (i.i) (fun F h9=>(h9.2).1) rfl rfl Qd Qs (by omega))<|QA (JM (n:=n) ((i.i)*1) (fun F h9=>(h9.2).1) (by omega) rfl Qs (JJ (o:=l) (by omega)))<|JS_as rfl<|JS_nt<|QG<|J_sr<|JS_mv rfl<|QA (QU rfl rfl rfl)<|QE<|QC ?_
   refine QP rfl (fun hc=>?_) (fun hc=>?_)
   ·
    have hng:=dec_t hc
    refine J_sr<|JS_as rfl<|JS_nt<|QS ?_
    repeat (first | refine JE ?_ | refine Q3 ?_)
    exact F_r1 rfl rfl (congrArg (Value.int .i64) (by unfold Zy;rw [if_neg (by rw [hln];exact fun h=>h heq),if_pos (LH hlt hng)])) (fun F h9=>trivial)
   ·
    have hng:=dec_f hc
    refine QO<|QC<|QB<|JS_mv rfl<|JS_mv rfl<|QA (Cd rfl rfl)<|QA (Qp rfl rfl (by omega))<|JS_as rfl<|QE<|Qk<|QC<|QB<|QA (Qp rfl rfl (by omega))<|JS_mv rfl<|QE ?_
    exact Ql (⟨i.i+1,hlt,by intro k hk;rw [X4 hlt] at hk;rcases List.mem_append.1 hk with hk | hk;exact i.nn k hk;rw [List.mem_singleton.1 hk,← Xx hlt];omega⟩) (by show l.length - (i.i+1)<l.length - i.i;omega) ⟨rfl,rfl,rfl,(congrArg (fun z:Int=>some (Value.int .i64 z)) (UN hlt).symm),rfl,trivial⟩ subl_r (fun F h=>h)
  ·
   have hge:i.i=l.length:=by have:=dec_f hc;omega
   refine Qy ?_
   repeat (first | refine QZ ?_ | refine QV (by rfl) ?_)
   refine Qa<|QC<|QG<|JR subl_r mixed (by kernel_rfl) ?_
   rw [hge,List.take_length]
   have hnn:=i.nn
   rw [hge,List.take_length] at hnn
   refine QM (QD rfl)<|QM (QU rfl rfl rfl)<|Qg rfl (fun w F hF h9=>Zn hF ) (fun _=>QM (QI rfl WQ Jy)<|QM (Qo rfl Jy .here (.here .nil))<|Qg rfl (fun w F hF h9=>E8 hF h9.1.1 (hf)) (fun _=>?_))
   refine Jt rfl (Q7 Zj) Y1 H7 rfl rfl (fun b34=>?_) (fun w h=>h.imp (.cons_cons _ .slnil) (fun F h=>h.1.1))
   refine Qg rfl (fun w F hF h9=>Z5 hF (Q4.of (cs:=List.map Qx [if decide (Kd l>12)=true then 4 else 0,Ja f]) h9.2 rfl) (by decide)) (fun _=>QM (QF rfl)<|Q9<|QC<|QS ?_)
   exact F_r1 rfl rfl (congrArg (Value.int .i64) (by unfold Zy;rw [if_neg (by rw [hln];exact fun h=>h heq),if_neg (jU hnn)])) (fun F h9=>trivial)
end
section
open Go.RowKit Ig
theorem Km {a b:Int} (h:Qm [a,b]=0):a=0∧b=0:=by
 unfold Qm at h
 by_cases g:a=0
 ·rw [if_pos g] at h
  unfold Qm at h
  by_cases k:b=0
  ·exact⟨g,k⟩
  ·rw [if_neg k] at h;exact⟨g,h⟩
 ·rw [if_neg g] at h;exact absurd h g
def VX (p:Pt) (v:Int) (i:Nat):Int :=
 let e:=Qm [Zy (el p i).1 (el p i).2 v,if((el p i).1==[48])=true then 6 else 0]
 if e=0∧0<i∧0≤K8 (el p (i - 1)).2 (el p i).2 then 11 else e
def XF (p:Pt) (v:Int):Int:=if decide ((p.length:Int)>64)=true then 5 else Qm ((List.range p.length).map (VX p v))
theorem Tz {n i:Nat} (h:i<n):el (List.range n) i=i:=by rw [ZA (by simpa using h)];simp
theorem Gy {ts:List Vr} {i:Nat} (h:i<ts.length):el (Jp ts) i=((el ts i).f,(el ts i).k):=by rw [ZA (by simpa [Jp] using h),ZA h];simp [Jp]
theorem Ab {l:List Int} (h:∀ k∈l,0≤k) (hc:Kd l≤12):∀ k∈l,k≤12:=by
 induction l with
 |nil=>intro k hk;cases hk
 |cons x l ih =>
  have hl:∀ k∈l,0≤k:=fun k hk=>h k (by simp [hk])
  have h1:=(Ht l hl).1
  have h2:=h x (by simp)
  have e:Kd (x::l)=(if 13<x then 13 else x)+Kd l:=by unfold Kd;rw [List.map_cons,List.sum_cons]
  rw [e] at hc
  intro k hk
  rcases List.mem_cons.1 hk with rfl | hk
  ·split at hc<;>omega
  ·refine ih hl ?_ k hk
   split at hc<;>omega
theorem Z8 {f:List UInt8} {l:List Int} {v:Int} (h:Zy f l v=0):(l.length:Int)=v+1∧(∀ k∈l,0≤k∧k≤12)∧Kd l≤12∧Ja f=0:=by
 unfold Zy at h
 split at h
 ·omega
 ·rename_i h1
  split at h
  ·omega
  ·rename_i h2
   have hn:∀ k∈l,0≤k:=fun k hk=>by
    rcases Int.lt_or_le k 0 with g | g
    ·exact absurd (List.any_eq_true.2 ⟨k,hk,decide_eq_true g⟩) h2
    ·exact g
   obtain ⟨g1,g2⟩:=Km h
   have hc:Kd l≤12:=by
    rcases Int.lt_or_le 12 (Kd l) with g | g
    ·rw [if_pos (decide_eq_true g)] at g1;omega
    ·exact g
   exact⟨by omega,fun k hk=>⟨hn k hk,Ab hn hc k hk⟩,hc,g2⟩
theorem KZ {f:List UInt8} {l:List Int} {v:Int} (h:Zy f l v=0) (hv:v≤24):PW l:=by
 obtain ⟨h1,h2,_⟩:=Z8 h
 exact⟨fun k hk=>by have:=h2 k hk;omega,by omega⟩
theorem MV {p:Pt} {v:Int} {i:Nat} (h:VX p v i=0):Zy (el p i).1 (el p i).2 v=0∧(el p i).1≠[48]∧(0<i→K8 (el p (i - 1)).2 (el p i).2<0):=by
 unfold VX at h
 dsimp only at h
 by_cases g:Qm [Zy (el p i).1 (el p i).2 v,if((el p i).1==[48])=true then 6 else 0]=0∧0<i∧0≤K8 (el p (i - 1)).2 (el p i).2
 ·rw [if_pos g] at h;omega
 ·rw [if_neg g] at h
  obtain ⟨h1,h2'⟩:=Km h
  have h2:(el p i).1≠[48]:=by
   intro q
   rw [if_pos (by rw [q];rfl)] at h2'
   omega
  refine⟨h1,h2,fun hi=>?_⟩
  rcases Int.lt_or_le (K8 (el p (i - 1)).2 (el p i).2) 0 with q | q
  ·exact q
  ·exact absurd ⟨h,hi,q⟩ g
structure LC (p:Pt) (v:Int) (n:Nat) where
 i:Nat
 le:i≤n
 z:∀ j,j<i→VX p v j=0
def LC.scan {p:Pt} {v:Int} {n:Nat} (s:LC p v n):Y3 (List.range n) (VX p v):=⟨s.i,by rw [List.length_range];exact s.le,by
 have key:∀ i,i≤n→(∀ j,j<i→VX p v j=0)→Qm ((List.range n).map (VX p v))=Qm (((List.range n).map (VX p v)).drop i):=by
  intro i
  induction i with
  |zero=>intro _ _;rfl
  |succ i ih =>
   intro hi hz
   rw [ih (by omega) (fun j hj=>hz j (by omega)),KL (by simp;omega) (by simp;exact hz i (by omega))]
 exact key s.i s.le s.z⟩
theorem HZ {p:Pt} {v x:Int} {n:Nat} (hn:p.length=n) (hp:¬ (n:Int)>64) (s:LC p v n) (h:s.i<n) (hs:VX p v s.i=x) (hx:x≠0):XF p v=x:=by
 unfold XF
 rw [hn,if_neg (by rw [decide_eq_true_eq];exact hp),s.scan.hit (by rw [List.length_range];exact h) (by rw [show s.scan.i=s.i from rfl,Tz h,hs];exact hx),show s.scan.i=s.i from rfl,Tz h,hs]
theorem Ao {p:Pt} {v:Int} {n:Nat} (hn:p.length=n) (hp:¬ (n:Int)>64) (s:LC p v n) (h:n≤s.i):XF p v=0:=by
 unfold XF
 rw [hn,if_neg (by rw [decide_eq_true_eq];exact hp),s.scan.stop (by rw [List.length_range];exact h)]
theorem step_eq {ps:List Vr} {v E:Int} {i:Nat} (h:i<ps.length) (hE:Qm [Zy (el ps i).f (el ps i).k v,if((el ps i).f==[48])=true then 6 else 0]=E):VX (Jp ps) v i=if E=0∧0<i∧0≤K8 (el ps (i - 1)).k (el ps i).k then 11 else E:=by
 unfold VX
 rw [Gy h,Gy (show i - 1<ps.length by omega)]
 dsimp only
 rw [hE]
theorem Bj {w:World} {F:Gs} {q:Option Addr} {n cap:Nat} {ps:List Vr} {v:Int} (hF:Fits F w) (hGl:JC F) (hR:Q4 F q n 2 (ps.flatMap KU)) (hP:Zl F ps) (hln:ps.length=n) (hf:∀ t∈ps,t.f.length≤1000000∧t.k.length≤1000000) (hl:ps.length≤1000000) (hv:0≤v∧v≤24):Qc Tryz.prog 143 [.slice q n cap,.int .i64 v] w F (.int .i64 (XF (Jp ps) v)):=by
 have hal:(Jp ps).length=n:=by unfold Jp;rw [List.length_map];exact hln
 refine QT.intro (G:=fun F=>JC F∧Q4 F q n 2 (ps.flatMap KU)∧Zl F ps) Tryz.func143 rfl (by rfl) rfl rfl hF (fun F' hF'=>⟨hGl.le hF',hR.le hF',hP.le hF'⟩)<|J_sr<|JS_as rfl<|JS_nt<|QG<|J_sr<|JS_mv rfl<|QA (Qi rfl Xk)<|QA (QU rfl rfl rfl)<|QE<|QC ?_
 refine QP rfl (fun hc=>?_) (fun hc=>?_)
 ·
  have hbig:=hc
  refine J_sr<|JS_as rfl<|JS_nt<|QS ?_
  exact F_r1 rfl rfl (congrArg (Value.int .i64) (by unfold XF;rw [hal,if_pos hbig])) (fun F h9=>trivial)
 ·
  have hbig:=dec_f hc
  refine QO<|QC<|QG<|J_sr<|JS_mv rfl<|QA (Qi rfl Xk)<|JS_mv rfl<|JS_nt<|QX<|ZT (ι:=LC (Jp ps) v n) [(0,_),(1,_),(11,_),(12,_)] (fun i=>[(13,.int .i64 ((i.i:Nat):Int))]) (fun i=>n - i.i) (⟨0,Nat.zero_le _,fun j hj=>absurd hj (Nat.not_lt_zero _)⟩) ⟨rfl,rfl,rfl,rfl,trivial⟩ ⟨rfl,trivial⟩ (fun i=>?_)
  simp only [List.cons_append,List.nil_append]
  have hi:=i.le
  refine J_sr<|QA (QU rfl rfl rfl)<|JS_nt<|QG ?_
  refine QP rfl (fun hc=>?_) (fun hc=>?_)
  ·
   have hlt:i.i<n:=by have:=dec_t hc;omega
   have htm:el ps i.i∈ps:=JN (by omega)
   refine QO<|QC<|QG<|QX<|J_sr<|JS_mv rfl<|QA (JK (n:=n) (i.i) (fun F h9=>h9.2.1) rfl rfl Xk XO (by omega))<|QA (Xq (n:=n) (vs:=[tx (el ps (i.i)).f,.slice (el ps (i.i)).r.q (el ps (i.i)).r.n (el ps (i.i)).r.cap]) ((i.i)*2) (fun F h9=>h9.2.1) (by omega) rfl XO rfl (fun j v hv=>J2 (f:=KU) (l:=ps) YP (by omega) hv))<|Qf Xf (fun b6=>JS_as rfl<|QQ (vs:=[_,_]) rfl rfl rfl XO rfl .here (.here (.here .nil)) ⟨rfl,rfl,trivial⟩<|JS_nt<|QG<|JR subl_r mixed (by kernel_rfl)<|QM (QL (vs:=[_,_]) rfl XO .here (.here (.here .nil)) rfl)<|QM (QD rfl)<|Qg rfl (fun w F hF h9=>jE hF (h9.1) (f:=(el ps i.i).f) (l:=(el ps i.i).k) (h9.2.2 _ htm) ((hf _ htm).1) ((hf _ htm).2) (by omega)) (fun _=>QM (QI rfl WQ Jy)<|QM (Qo rfl Jy .here (.here .nil))<|QM (KY rfl rfl)<|Qg rfl (fun w F hF h9=>Zn hF ) (fun _=>?_)))
   refine Jt rfl (Q7 Zj) Y1 H7 rfl rfl (fun b25=>?_) (fun w h=>h.imp (.cons_cons _ .slnil) (fun F h=>h.1.1))
   refine Qg rfl (fun w F hF h9=>Z5 hF (Q4.of (cs:=List.map Qx [Zy (el ps i.i).f (el ps i.i).k v,if((el ps i.i).f==[48])=true then 6 else 0]) h9.2 rfl) (by decide)) (fun _=>QM (QF rfl)<|Q9<|QC<|QG<|QG<|JR subl_r mixed (by kernel_rfl) ?_)
   generalize hE:Qm [Zy (el ps i.i).f (el ps i.i).k v,if((el ps i.i).f==[48])=true then 6 else 0]=E
   have hst:=step_eq (v:=v) (show i.i<ps.length by omega) hE
   refine QM (QD rfl)<|QM (QU rfl rfl rfl)<|QM (QD rfl) ?_
   refine HQ (t:=29) rfl (fun hb29=>?_) (fun hb29=>?_)
   ·
    refine Jx rfl rfl<|QM (QD rfl)<|Jx rfl rfl<|QM (QU rfl rfl rfl)<|QM (Qj rfl rfl rfl)<|QM (QD rfl) ?_
    refine HQ (t:=33) rfl (fun hb33=>?_) (fun hb33=>?_)
    ·
     refine Jx rfl rfl<|QM (QD rfl)<|Jx rfl rfl<|QM (QD rfl)<|Jx rfl rfl<|QM (J7 rfl rfl (by omega))<|Jx rfl rfl ?_
     have hi0:0<i.i:=by have:=dec_t hb33;omega
     refine QM (JK (n:=n) ((i.i - 1)) (fun F h9=>h9.1.1.1.1.2.1) rfl (congrArg (fun z:Int=>some (Value.int .i64 z)) (by omega)) Xk XO (by omega))<|Jx rfl rfl<|QM (QI rfl Yp Qv)<|Jx rfl rfl<|QM (JM (n:=n) (((i.i - 1))*2+1) (fun F h9=>h9.1.1.1.1.2.1) (by omega) rfl Qv (J2 (f:=KU) (l:=ps) YP (by omega) rfl))<|Jx rfl rfl<|QM (QI rfl Yp Qv)<|Jx rfl rfl<|QM (Qo rfl Qv .here (.skip (.here .nil)))<|Jx rfl rfl ?_
     have hz0:=(MV (i.z (i.i - 1) (by omega))).1
     rw [Gy (show i.i - 1<ps.length by omega)] at hz0
     have hE0:E=0:=eq_of_beq hb29
     obtain ⟨hz1,_⟩:=Km (hE.trans hE0)
     have htm0:el ps (i.i - 1)∈ps:=JN (by omega)
     refine Qg rfl (fun w F hF h9=>Hm hF (ra:=(el ps (i.i - 1)).r) (rb:=(el ps i.i).r) (h9.1.1.1.1.2.2 _ htm0) (h9.1.1.1.1.2.2 _ htm) (KZ hz0 hv.2) (KZ hz1 hv.2)) (fun _=>Jx rfl rfl<|QM (QU rfl rfl rfl)<|QM (Qj rfl rfl rfl)<|Q9<|QC ?_)
     refine QP rfl (fun hc=>?_) (fun hc=>?_)
     ·
      have h44:=dec_t hc
      refine QB<|JS_as rfl<|JS_nt<|J_sr<|JS_mv rfl<|QA (QU rfl rfl rfl)<|QE<|QC ?_
      refine QP rfl (fun hc=>?_) (fun hc=>?_)
      ·
       refine J_sr<|JS_mv rfl<|JS_as rfl<|JS_nt<|QS ?_
       repeat (first | refine JE ?_ | refine Q3 ?_)
       exact F_r1 rfl rfl (congrArg (Value.int .i64) (HZ hal hbig i hlt (by first | (rw [hst];exact if_pos ⟨eq_of_beq hb29,by have:=dec_t hb33;omega,h44⟩) | (rw [hst];exact if_neg (fun h=>h44 h.2.2)) | (rw [hst];exact if_neg (fun h=>by have:=dec_f hb33;omega)) | (rw [hst];exact if_neg (fun h=>by rw [h.1] at hb29;cases hb29))) (bne_iff_ne.1 hc))) (fun F h9=>trivial)
      ·
       refine QO<|Qk<|QC<|QB<|QA (Qp rfl rfl (by omega))<|JS_mv rfl<|QE ?_
       exact Ql (⟨i.i+1,hlt,fun j hj=>by
        rcases Nat.lt_or_ge j i.i with g | g
        ·exact i.z j g
        ·rw [show j=i.i from by omega];first | exact absurd hc (by decide) | (rw [hst,if_neg (fun h=>h44 h.2.2)];exact bne_eq_false_iff_eq.1 hc) | (rw [hst,if_neg (fun h=>by have:=dec_f hb33;omega)];exact bne_eq_false_iff_eq.1 hc) | (rw [hst,if_neg (fun h=>by rw [h.1] at hb29;cases hb29)];exact bne_eq_false_iff_eq.1 hc)⟩) (by show n - (i.i+1)<n - i.i;omega) ⟨rfl,rfl,rfl,rfl,rfl,trivial⟩ (.cons _ .slnil) (fun F h=>h.1.1.1.1.1)
     ·
      have h44:=dec_f hc
      refine QO<|QC<|J_sr<|JS_mv rfl<|QA (QU rfl rfl rfl)<|QE<|QC ?_
      refine QP rfl (fun hc=>?_) (fun hc=>?_)
      ·
       refine J_sr<|JS_mv rfl<|JS_as rfl<|JS_nt<|QS ?_
       repeat (first | refine JE ?_ | refine Q3 ?_)
       exact F_r1 rfl rfl (congrArg (Value.int .i64) (HZ hal hbig i hlt (by first | (rw [hst];exact if_pos ⟨eq_of_beq hb29,by have:=dec_t hb33;omega,h44⟩) | (rw [hst];exact if_neg (fun h=>h44 h.2.2)) | (rw [hst];exact if_neg (fun h=>by have:=dec_f hb33;omega)) | (rw [hst];exact if_neg (fun h=>by rw [h.1] at hb29;cases hb29))) (bne_iff_ne.1 hc))) (fun F h9=>trivial)
      ·
       refine QO<|Qk<|QC<|QB<|QA (Qp rfl rfl (by omega))<|JS_mv rfl<|QE ?_
       exact Ql (⟨i.i+1,hlt,fun j hj=>by
        rcases Nat.lt_or_ge j i.i with g | g
        ·exact i.z j g
        ·rw [show j=i.i from by omega];first | exact absurd hc (by decide) | (rw [hst,if_neg (fun h=>h44 h.2.2)];exact bne_eq_false_iff_eq.1 hc) | (rw [hst,if_neg (fun h=>by have:=dec_f hb33;omega)];exact bne_eq_false_iff_eq.1 hc) | (rw [hst,if_neg (fun h=>by rw [h.1] at hb29;cases hb29)];exact bne_eq_false_iff_eq.1 hc)⟩) (by show n - (i.i+1)<n - i.i;omega) ⟨rfl,rfl,rfl,rfl,rfl,trivial⟩ (.cons _ .slnil) (fun F h=>h.1.1.1.1.1)
    ·
     refine Jl rfl rfl rfl<|Jl rfl rfl rfl<|Jl rfl rfl rfl<|Jl rfl rfl rfl<|Jl rfl rfl rfl<|Jl rfl rfl rfl<|Jl rfl rfl rfl<|Jl rfl rfl rfl<|Jl rfl rfl rfl<|Jl rfl rfl rfl<|QM (Qh rfl rfl rfl)<|Q9<|QC<|YF rfl<|QO<|QC<|J_sr<|JS_mv rfl<|QA (QU rfl rfl rfl)<|QE<|QC ?_
     refine QP rfl (fun hc=>?_) (fun hc=>?_)
     ·
      refine J_sr<|JS_mv rfl<|JS_as rfl<|JS_nt<|QS ?_
      repeat (first | refine JE ?_ | refine Q3 ?_)
      exact F_r1 rfl rfl (congrArg (Value.int .i64) (HZ hal hbig i hlt (by first | (rw [hst];exact if_pos ⟨eq_of_beq hb29,by have:=dec_t hb33;omega,h44⟩) | (rw [hst];exact if_neg (fun h=>h44 h.2.2)) | (rw [hst];exact if_neg (fun h=>by have:=dec_f hb33;omega)) | (rw [hst];exact if_neg (fun h=>by rw [h.1] at hb29;cases hb29))) (bne_iff_ne.1 hc))) (fun F h9=>trivial)
     ·
      refine QO<|Qk<|QC<|QB<|QA (Qp rfl rfl (by omega))<|JS_mv rfl<|QE ?_
      exact Ql (⟨i.i+1,hlt,fun j hj=>by
        rcases Nat.lt_or_ge j i.i with g | g
        ·exact i.z j g
        ·rw [show j=i.i from by omega];first | exact absurd hc (by decide) | (rw [hst,if_neg (fun h=>h44 h.2.2)];exact bne_eq_false_iff_eq.1 hc) | (rw [hst,if_neg (fun h=>by have:=dec_f hb33;omega)];exact bne_eq_false_iff_eq.1 hc) | (rw [hst,if_neg (fun h=>by rw [h.1] at hb29;cases hb29)];exact bne_eq_false_iff_eq.1 hc)⟩) (by show n - (i.i+1)<n - i.i;omega) ⟨rfl,rfl,rfl,rfl,rfl,trivial⟩ (.cons _ .slnil) (fun F h=>h.1.1.1.1)
   ·
    refine Jl rfl rfl rfl<|Jl rfl rfl rfl<|QM (Qh rfl rfl rfl)<|QM (QD rfl)<|Jl rfl rfl rfl<|Jl rfl rfl rfl<|Jl rfl rfl rfl<|Jl rfl rfl rfl<|Jl rfl rfl rfl<|Jl rfl rfl rfl<|Jl rfl rfl rfl<|Jl rfl rfl rfl<|Jl rfl rfl rfl<|Jl rfl rfl rfl<|QM (Qh rfl rfl rfl)<|Q9<|QC<|YF rfl<|QO<|QC<|J_sr<|JS_mv rfl<|QA (QU rfl rfl rfl)<|QE ?_
    refine QC ?_
    refine QP rfl (fun hc=>?_) (fun hc=>?_)
    ·
     refine J_sr<|JS_mv rfl<|JS_as rfl<|JS_nt<|QS ?_
     repeat (first | refine JE ?_ | refine Q3 ?_)
     exact F_r1 rfl rfl (congrArg (Value.int .i64) (HZ hal hbig i hlt (by first | (rw [hst];exact if_pos ⟨eq_of_beq hb29,by have:=dec_t hb33;omega,h44⟩) | (rw [hst];exact if_neg (fun h=>h44 h.2.2)) | (rw [hst];exact if_neg (fun h=>by have:=dec_f hb33;omega)) | (rw [hst];exact if_neg (fun h=>by rw [h.1] at hb29;cases hb29))) (bne_iff_ne.1 hc))) (fun F h9=>trivial)
    ·
     refine QO<|Qk<|QC<|QB<|QA (Qp rfl rfl (by omega))<|JS_mv rfl<|QE ?_
     exact Ql (⟨i.i+1,hlt,fun j hj=>by
        rcases Nat.lt_or_ge j i.i with g | g
        ·exact i.z j g
        ·rw [show j=i.i from by omega];first | exact absurd hc (by decide) | (rw [hst,if_neg (fun h=>h44 h.2.2)];exact bne_eq_false_iff_eq.1 hc) | (rw [hst,if_neg (fun h=>by have:=dec_f hb33;omega)];exact bne_eq_false_iff_eq.1 hc) | (rw [hst,if_neg (fun h=>by rw [h.1] at hb29;cases hb29)];exact bne_eq_false_iff_eq.1 hc)⟩) (by show n - (i.i+1)<n - i.i;omega) ⟨rfl,rfl,rfl,rfl,rfl,trivial⟩ (.cons _ .slnil) (fun F h=>h.1.1.1.1)
  ·
   have hge:n≤i.i:=by have:=dec_f hc;omega
   refine Qy ?_
   repeat (first | refine QZ ?_ | refine QV (by rfl) ?_)
   refine Qa<|QC<|J_sr<|JS_as rfl<|JS_nt<|QS ?_
   exact F_r1 rfl rfl (congrArg (Value.int .i64) (Ao hal hbig i hge)) (fun F h9=>trivial)
end
section
open Go.RowKit Ig
theorem SB {w:World} {F:Gs} {q:Option Addr} {n cap b:Nat} {ps:List Vr} {v:Int} (hF:Fits F w) (hGl:JC F) (hB:F b=some (#[.int .i64 v],3)) (hR:Q4 F q n 2 (ps.flatMap KU)) (hP:Zl F ps) (hln:ps.length=n) (hf:∀ t∈ps,t.f.length≤1000000∧t.k.length≤1000000) (hl:ps.length≤1000000) (hv:0≤v∧v≤24):Qc Tryz.prog 208 [.slice q n cap,.pointer (some ⟨b,0,none⟩)] w F (.int .i64 (XF (Jp ps) v)):=by
 refine QT.intro (G:=fun F=>JC F∧F b=some (#[.int .i64 v],3)∧Q4 F q n 2 (ps.flatMap KU)∧Zl F ps) Tryz.func208 rfl (by rfl) rfl rfl hF (fun F' hF'=>⟨hGl.le hF',hF' _ _ hB,hR.le hF',hP.le hF'⟩)<|J_sr<|JS_as rfl<|JS_nt<|J_sr<|JS_mv rfl<|QA (Mz (c:=#[.int .i64 v]) (T':=3) rfl Qs (fun F h9=>h9.2.1) rfl)<|QH rfl (fun w F hF h9=>Bj hF (h9.1) (h9.2.2.1) (h9.2.2.2) (hln) (hf) (hl) (hv)) (fun _=>JS_as rfl<|JS_nt<|QS ?_)
 exact F_r1 rfl rfl (rfl) (fun F h9=>trivial)
end
section
open Go.RowKit Ig
instance :Inhabited Yw:=⟨(⟨none,0,0⟩,[])⟩
section
variable [Dr] [df:Df] {P:Program} {N:Nat} {m:Sl} {S:World→Prop} {ty:TypeId}
theorem My {g:FuncId} {cap:Array Operand} {vs:List Value} (hv:Ec m cap.toList=some vs):Qt P N m S (.makeFunc (.func g) #[] cap) ty (.func (.func g) #[] vs.toArray):=fun a w _ _ _ _ ha _=>by
 have:=ha.Ec hv
 have e:cap.map a.eval=vs.toArray:=by rw [← this];apply Array.ext';simp
 simp [execOp,Instr.makeFunc,e]
end
def Z9 (F:Gs) (ls:List Yw):Prop:=∀ e∈ls,Q4 F e.1.q e.1.n 2 (e.2.flatMap KU)∧Zl F e.2
theorem Z9.le {F F':Gs} {ls:List Yw} (h:Z9 F ls) (k:Gs.le F F'):Z9 F' ls:=fun e he=>⟨(h e he).1.le k,(h e he).2.le k⟩
def VB (e:Yw):Prop:=e.2.length=e.1.n∧(∀ t∈e.2,t.f.length≤1000000∧t.k.length≤1000000)∧e.2.length≤1000000
def Vq (ls:List Yw) (v:Int):Int:=if ZM v=0 then Qm (ls.map fun e=>XF (Jp e.2) v) else ZM v
theorem AT {w:World} {F:Gs} {q:Option Addr} {n c f:Nat} {ls:List Yw} {fE:Yw→Int} {c1 c2:List Value} {G0:Gs→Prop} (hF:Fits F w) (hg:∀ F F',Gs.le F F'→G0 F→G0 F') (h0:G0 F) (hR:Q4 F q n 1 (ls.map fun e=>e.1.v)) (hn:ls.length=n) (hb:n≤1000000) (hc:∀ e∈ls,∀ w F,Fits F w→G0 F→Qc Tryz.prog f (c1++[e.1.v]++c2) w F (.int .i64 (fE e))) :
  Qc Tryz.prog 207 [.slice q n c,.func (.func f) c1.toArray c2.toArray] w F (.int .i64 (Qm (ls.map fE))):=by
 refine QT.intro (G:=fun F=>G0 F∧Q4 F q n 1 (ls.map fun e=>e.1.v)) Tryz.func207 rfl (by rfl) rfl rfl hF (fun F' hF'=>⟨hg F F' hF' h0,hR.le hF'⟩)<|J_sr<|JS_as rfl<|JS_nt<|QG<|J_sr<|JS_mv rfl<|QA (Qi rfl DA)<|JS_mv rfl<|JS_nt<|QX<|ZT (ι:=Y3 ls fE) [(1,_),(8,_),(9,_)] (fun i=>[(10,.int .i64 ((i.i:Nat):Int))]) (fun i=>ls.length - i.i) (Y3.start _ _) ⟨rfl,rfl,rfl,trivial⟩ ⟨rfl,trivial⟩ (fun i=>?_)
 simp only [List.cons_append,List.nil_append]
 have hi:=i.le
 refine J_sr<|QA (QU rfl rfl rfl)<|JS_nt<|QG ?_
 refine QP rfl (fun hc2=>?_) (fun hc2=>?_)
 ·
  have hlt:i.i<ls.length:=by have:=dec_t hc2;omega
  have hem:=JN hlt
  refine QO<|QC<|QG<|QX<|J_sr<|QA (JK (n:=n) (i.i) (fun F h9=>h9.2) rfl rfl DA Gn (by omega))<|QA (JM (n:=n) ((i.i)*1) (fun F h9=>h9.2) (by omega) rfl Gn (DR (f:=fun e:Yw=>e.1.v) (l:=ls) (by omega)))<|JS_as rfl<|JS_nt<|J_sr<|JS_mv rfl<|JS_mv rfl<|GN (c1:=c1) (c2:=c2) rfl rfl (fun w F hF h9=>hc _ hem w F hF h9.1) (fun _=>JS_as rfl<|JS_nt<|J_sr<|JS_mv rfl<|QA (QU rfl rfl rfl)<|QE<|QC ?_)
  refine QP rfl (fun hc2=>?_) (fun hc2=>?_)
  ·
   have h18:=bne_iff_ne.1 hc2
   refine J_sr<|JS_mv rfl<|JS_as rfl<|JS_nt<|QS ?_
   repeat (first | refine JE ?_ | refine Q3 ?_)
   exact F_r1 rfl rfl (congrArg (Value.int .i64) (i.hit hlt h18)) (fun F h9=>trivial)
  ·
   have h18:=bne_eq_false_iff_eq.1 hc2
   refine QO<|Qk<|QC<|QB<|QA (Qp rfl rfl (by omega))<|JS_mv rfl<|QE ?_
   exact Ql (i.next hlt h18) (by show ls.length - (i.i+1)<ls.length - i.i;omega) ⟨rfl,rfl,rfl,rfl,trivial⟩ subl_r (fun F h=>h.1)
 ·
  have hge:ls.length≤i.i:=by have:=dec_f hc2;omega
  refine Qy ?_
  repeat (first | refine QZ ?_ | refine QV (by rfl) ?_)
  refine Qa<|QC<|J_sr<|JS_as rfl<|JS_nt<|QS ?_
  exact F_r1 rfl rfl (congrArg (Value.int .i64) (i.stop hge)) (fun F h9=>trivial)
theorem GI {w:World} {F:Gs} {q:Option Addr} {n c:Nat} {ls:List Yw} {v:Int} (hF:Fits F w) (hGl:JC F) (hR:Q4 F q n 1 (ls.map fun e=>e.1.v)) (hA:Z9 F ls) (hn:ls.length=n) (hb:n≤1000000) (ht:∀ e∈ls,VB e) :
  Qc Tryz.prog 128 [.int .i64 v,.slice q n c] w F (.int .i64 (Vq ls v)):=by
 refine QT.intro (G:=fun F=>JC F∧Q4 F q n 1 (ls.map fun e=>e.1.v)∧Z9 F ls) Tryz.func128 rfl (by rfl) rfl rfl hF (fun F' hF'=>⟨hGl.le hF',hR.le hF',hA.le hF'⟩)<|J_sr<|Q5 rfl (vs:=[_]) rfl (fun b2=>JS_as rfl<|JS_nt<|QG<|J_sr<|QA (Qo rfl Qs .here (.here .nil))<|QH rfl (fun w F hF h9=>Gh hF ) (fun _=>JS_as rfl<|JS_nt<|J_sr<|JS_mv rfl<|QA (QU rfl rfl rfl)<|QE<|QC ?_))
 refine QP rfl (fun hc=>?_) (fun hc=>?_)
 ·
  have hc0:=bne_iff_ne.1 hc
  refine J_sr<|JS_mv rfl<|JS_as rfl<|JS_nt<|QS ?_
  exact F_r1 rfl rfl (congrArg (Value.int .i64) (by unfold Vq;rw [if_neg hc0])) (fun F h9=>trivial)
 ·
  have hc0:=bne_eq_false_iff_eq.1 hc
  have hv:=(Yd v).1 hc0
  refine QO<|QC<|J_sr<|JS_mv rfl<|Wf (b:=b2) .here<|QA (My rfl)<|QH rfl (fun w F hF ⟨⟨⟨hGl,hR,hA⟩,_⟩,hB⟩=>AT (f:=208) (fE:=fun e=>XF (Jp e.2) v) (c1:=[]) (c2:=[.pointer (some ⟨b2,0,none⟩)]) (G0:=fun F=>JC F∧Z9 F ls∧F b2=some (#[.int .i64 v],3)) hF (fun F F' hle h=>⟨h.1.le hle,h.2.1.le hle,hle _ _ h.2.2⟩) ⟨hGl,hA,hB⟩ hR hn hb (fun e he w F hF h=>SB hF h.1 h.2.2 (h.2.1 e he).1 (h.2.1 e he).2 (ht e he).1 (ht e he).2.1 (ht e he).2.2 hv)) (fun _=>JS_as rfl<|JS_nt<|QS ?_)
  exact F_r1 rfl rfl (congrArg (Value.int .i64) (by unfold Vq;rw [if_pos hc0])) (fun F h9=>trivial)
end
section
open Go.RowKit Ig
def JA (p:Pt):List Tm:=p.map fun x=>(Jk x.1,x.2)
theorem Sh (ts:List Vr):ts.map CS=JA (Jp ts):=by simp [JA,Jp,CS]
theorem Pw:∀ (p:List Tm) (t:Tm),(ZK p t).length≤p.length+1
 |[],t=>by
  unfold ZK;split<;>simp
 |x::p,t=>by
  have:=Pw p t
  unfold ZK
  repeat' split
  all_goals simp only [List.length_cons]
  all_goals omega
theorem TX:∀ (l p:List Tm),(l.foldl ZK p).length≤p.length+l.length
 |[],p=>by simp
 |t::l,p=>by
  have h1:=TX l (ZK p t)
  have h2:=Pw p t
  simp only [List.foldl_cons,List.length_cons];omega
theorem Va (l:List Tm):(JQ l).length≤l.length:=by have:=TX l [];simpa [JQ] using this
theorem TS:∀ (l p:List Tm) (x:Tm),x∈l.foldl ZK p→(∃ y∈p,y.2=x.2)∨∃ y∈l,y.2=x.2
 |[],p,x,h=>.inl ⟨x,h,rfl⟩
 |t::l,p,x,h=>by
  rw [List.foldl_cons] at h
  rcases TS l _ x h with ⟨y,hy,e⟩ | ⟨y,hy,e⟩
  ·rcases DQ hy with h2 | h2
   ·exact .inl ⟨y,h2,e⟩
   ·exact .inr ⟨t,by simp,by rw [← h2];exact e⟩
  ·exact .inr ⟨y,by simp [hy],e⟩
theorem H5 {l:List Tm} {x:Tm} (h:x∈JQ l):∃ y∈l,y.2=x.2:=by
 rcases TS l [] x h with ⟨y,hy,_⟩ | h
 ·cases hy
 ·exact h
theorem WT {p:List Tm} (h:Canon p) {t:Tm} (ht:t∈p):Ig.Jf p t.2=t.1:=by
 induction p with
 |nil=>cases ht
 |cons x p ih =>
  rcases List.mem_cons.1 ht with rfl | ht
  ·exact h.head
  ·have hb:=(List.pairwise_cons.1 h.CY).1 t ht
   have hne:x.2≠t.2:=Io hb
   simp only [Ig.Jf]
   rw [if_neg hne,Rat.zero_add];exact ih h.tail ht
theorem Hy {l:List Tm} {t:Tm} (h:t∈JQ l):JO t.1≤ZV l+1:=by
 rw [← WT (Zw l) h,Kc];exact BF l t.2
theorem Hf {l:List Tm} {k:Nat} (h:∀ t∈l,JO t.1≤k):ZV l≤l.length*(k+1):=by
 induction l with
 |nil=>simp [ZV]
 |cons x l ih =>
  have e:ZV (x::l)=JO x.1+1+ZV l:=by unfold ZV;rw [List.map_cons,List.sum_cons]
  have h1:=ih fun t ht=>h t (by simp [ht])
  have h2:=h x (by simp)
  rw [e,List.length_cons,Nat.add_mul];omega
theorem PD {a b:List Int} (h:K8 a b<0):before a b=true:=by rw [Kx];exact decide_eq_true h
theorem Vy {α:Type} [Inhabited α] {R:α→α→Prop} (ht:∀ a b c,R a b→R b c→R a c):∀ (l:List α),(∀ i,0<i→i<l.length→R (el l (i - 1)) (el l i))→l.Pairwise R
 |[],_=>List.Pairwise.nil
 |x::l,h=>by
  have ih:=Vy ht l fun i h0 hi=>by
   have:=h (i+1) (by omega) (by simp;omega)
   have e1:el (x::l) (i+1)=el l i:=rfl
   have e2:el (x::l) (i+1 - 1)=el l (i - 1):=by
    obtain ⟨j,rfl⟩:∃ j,i=j+1:=⟨i - 1,by omega⟩
    rfl
   rw [e1,e2] at this;exact this
  refine List.pairwise_cons.2 ⟨?_,ih⟩
  cases l with
  |nil=>intro y hy;cases hy
  |cons z l =>
   have hz:R x z:=h 1 (by omega) (by simp)
   intro y hy
   rcases List.mem_cons.1 hy with rfl | hy
   ·exact hz
   ·exact ht _ _ _ hz ((List.pairwise_cons.1 ih).1 y hy)
structure Yh (p:Pt) (v:Int):Prop where
 len:p.length≤64
 term:∀ x∈p,Zy x.1 x.2 v=0
 can:Canon (JA p)
theorem KE {p:Pt} {v:Int} (h:XF p v=0):Yh p v:=by
 unfold XF at h
 split at h
 ·omega
 ·rename_i hl
  have hl':p.length≤64:=by rw [decide_eq_true_eq] at hl;omega
  have hz:∀ i,i<p.length→VX p v i=0:=by
   have key:∀ (l:List Int),Qm l=0→∀ x∈l,x=0:=by
    intro l
    induction l with
    |nil=>intro _ x hx;cases hx
    |cons a l ih =>
     intro h x hx
     unfold Qm at h
     by_cases g:a=0
     ·rw [if_pos g] at h
      rcases List.mem_cons.1 hx with rfl | hx
      ·exact g
      ·exact ih h x hx
     ·rw [if_neg g] at h;exact absurd h g
   intro i hi
   exact key _ h _ (List.mem_map.2 ⟨i,by simpa using hi,rfl⟩)
  have hs:=fun i hi=>MV (hz i hi)
  have hel:∀ x∈p,∃ i,i<p.length∧el p i=x:=fun x hx=>by
   obtain ⟨i,hi,e⟩:=List.getElem_of_mem hx
   exact⟨i,hi,by rw [ZA hi];exact e⟩
  refine⟨hl',fun x hx=>?_,⟨?_,fun t ht=>?_⟩⟩
  ·obtain ⟨i,hi,rfl⟩:=hel x hx;exact(hs i hi).1
  ·unfold JA
   rw [List.pairwise_map]
   refine Vy (R:=fun a b:List UInt8×List Int=>before a.2 b.2=true) (fun a b c h k=>before_trans h k) p fun i h0 hi=>?_
   exact PD ((hs i hi).2.2 h0)
  ·unfold JA at ht
   obtain ⟨x,hx,rfl⟩:=List.mem_map.1 ht
   obtain ⟨i,hi,rfl⟩:=hel x hx
   have h1:=(Z8 (hs i hi).1).2.2.2
   have h2:=(hs i hi).2.1
   intro e
   have h3:=(ZO h1).1
   have e':Jk (el p i).1=0:=e
   rw [e'] at h3
   exact h2 (h3.trans S8)
theorem Yh.sz {p:Pt} {v:Int} (h:Yh p v):∀ t∈JA p,JO t.1≤2400:=fun t ht=>by
 unfold JA at ht
 obtain ⟨x,hx,rfl⟩:=List.mem_map.1 ht
 exact XR (Z8 (h.term x hx)).2.2.2
theorem Yh.ZV {p:Pt} {v:Int} (h:Yh p v):YtknegjaeoffnbaaGreatDoor.ZV (JA p)≤160000:=by
 have h1:=Hf h.sz
 have h2:(JA p).length≤64:=by unfold JA;rw [List.length_map];exact h.len
 have:=Nat.mul_le_mul_right 2401 h2
 omega
theorem Yh.pw {p:Pt} {v:Int} (h:Yh p v) (hv:v≤24):∀ t∈JA p,PW t.2:=fun t ht=>by
 unfold JA at ht
 obtain ⟨x,hx,rfl⟩:=List.mem_map.1 ht
 exact KZ (h.term x hx) hv
end
section
open Go.RowKit Ig
def yw (ls:List Yw) (v:Int) (l:List Tm):Int:=if Vq ls v=0 then WZ l else Vq ls v
def yv (ls:List Yw) (v:Int) (l:List Tm):Pt:=if Vq ls v=0 then Gr l else []
theorem Du {ls:List Yw} {v:Int} (h:Vq ls v=0):(0≤v∧v≤24)∧∀ e∈ls,Yh (Jp e.2) v:=by
 unfold Vq at h
 split at h
 ·rename_i g
  refine⟨(Yd v).1 g,fun e he=>KE ?_⟩
  have key:∀ (l:List Int),Qm l=0→∀ x∈l,x=0:=by
   intro l
   induction l with
   |nil=>intro _ x hx;cases hx
   |cons a l ih =>
    intro h x hx
    unfold Qm at h
    by_cases g:a=0
    ·rw [if_pos g] at h
     rcases List.mem_cons.1 hx with rfl | hx
     ·exact g
     ·exact ih h x hx
    ·rw [if_neg g] at h;exact absurd h g
  exact key _ h _ (List.mem_map.2 ⟨e,he,rfl⟩)
 ·rename_i g;exact absurd h g
theorem KV {w:World} {F:Gs} {a:Yw} {v:Int} (hF:Fits F w) (hGl:JC F) (hR:Q4 F a.1.q a.1.n 2 (a.2.flatMap KU)) (hP:Zl F a.2) (ht:VB a) (ho:Yh (Jp a.2) v) (hv:0≤v∧v≤24) :
  QT Tryz.prog 130 [a.1.v] w F (fun(c:Wl)=>c.1.v) (fun c F=>Jm F c.1 c.2 (JA (Jp a.2))):=by
 have hs:=ho.ZV
 have h:=qF hF hGl (r:=a.1) (ps:=a.2) hR hP ht.1 (by have:=ho.len;simp [Jp] at this;omega) (fun t htm=>?_) (by rw [Sh];omega)
 ·rw [Sh,VL ho.can] at h;exact h
 ·have h1:=ho.term (t.f,t.k) (List.mem_map.2 ⟨t,htm,rfl⟩)
  exact⟨(Z8 h1).2.2.2,(ht.2.1 t htm).1,KZ h1 hv.2⟩
theorem Jm.len {F:Gs} {s:Sr} {ts:List XT} {p:List Tm} (h:Jm F s ts p):ts.length=p.length:=by rw [← h.2.2.1];simp [JG]
theorem Jz {ts:List XT} {p:List Tm} {Q:Tm→Prop} (h:JG ts=p) (hq:∀ t∈p,Q t):∀ t∈ts,Q t.t:=fun t ht=>hq _ (h ▸ List.mem_map_of_mem ht)
theorem D4 {l:List Tm} (hp:∀ t∈l,PW t.2):∀ t∈JQ l,PW t.2:=fun t ht=>by
 obtain ⟨y,hy,e⟩:=H5 ht
 rw [← e];exact hp y hy
end
section
open Go.RowKit Ig
def vK (c:List UInt8) (p:Pt) (v:Int) (l:List Tm):Int:=if Qm [ZM v,Ja c]=0 then(if XF p v=0 then WZ l else XF p v) else Qm [ZM v,Ja c]
def vJ (c:List UInt8) (p:Pt) (v:Int) (l:List Tm):Pt:=if Qm [ZM v,Ja c]=0 then(if XF p v=0 then Gr l else []) else []
theorem DP {a:Rat} {l:List Tm} {t:Tm} (h:t∈YH a l):∃ y∈l,t=(y.1*a,y.2):=by
 unfold YH at h
 split at h
 ·cases h
 ·obtain ⟨y,hy,e⟩:=List.mem_map.1 h;exact⟨y,hy,e.symm⟩
theorem Ry (a:Rat) (l:List Tm):(YH a l).length≤l.length:=by
 unfold YH;split<;>simp
def DB (p:Pt) (n:Nat):Int:=if Qm [if decide ((n:Int)=0)=true then 2 else 0,if decide ((n:Int)>25)=true then 5 else 0]=0 then XF p ((n:Int) - 1) else Qm [if decide ((n:Int)=0)=true then 2 else 0,if decide ((n:Int)>25)=true then 5 else 0]
theorem UK {n:Nat} (h:Qm [if decide ((n:Int)=0)=true then 2 else 0,if decide ((n:Int)>25)=true then 5 else 0]=0):1≤n∧n≤25:=by
 obtain ⟨h1,h2⟩:=Km h
 simp only [decide_eq_true_eq] at h1 h2
 constructor
 ·split at h1<;>omega
 ·split at h2<;>omega
theorem I2 {w:World} {F:Gs} {a:Yw} {c:List UInt8} {v:Int} (hF:Fits F w) (hGl:JC F) (hR:Q4 F a.1.q a.1.n 2 (a.2.flatMap KU)) (hA:Zl F a.2) (ht:VB a) (hcl:c.length≤1000000) :
  QT Tryz.prog 76 [tx c,a.1.v,.int .i64 v] w F (fun(r:Yw)=>.tuple #[r.1.v,.int .i64 (vK c (Jp a.2) v (YH (Jk c) (JA (Jp a.2))))]) (fun r F=>ZR F r.1 r.2 (vJ c (Jp a.2) v (YH (Jk c) (JA (Jp a.2))))):=by
 dsimp only [Sr.v]
 refine QT.intro (G:=fun F=>JC F∧Q4 F a.1.q a.1.n 2 (a.2.flatMap KU)∧Zl F a.2) Tryz.func76 rfl (by rfl) rfl rfl hF (fun F' hF'=>⟨hGl.le hF',hR.le hF',hA.le hF'⟩)<|J_sr<|JS_as rfl<|JS_as rfl<|JS_nt<|QG<|J_sr<|JS_mv rfl<|QH rfl (fun w F hF h9=>Gh hF ) (fun _=>JS_mv rfl<|QH rfl (fun w F hF h9=>E8 hF h9.1.1 (hcl)) (fun _=>QW rfl (Q7 Zj) Y1 H7 rfl rfl (fun b14=>QH rfl (fun w F hF h9=>Z5 hF (Q4.of (cs:=List.map Qx [ZM v,Ja c]) h9.2 rfl) (by decide)) (fun _=>JS_as rfl<|JS_nt<|J_sr<|JS_mv rfl<|QA (QU rfl rfl rfl)<|QE<|QC ?_))))
 refine QP rfl (fun hc=>?_) (fun hc=>?_)
 ·
  have hc0:=bne_iff_ne.1 hc
  refine J_sr<|JS_mv rfl<|JS_as rfl<|JS_as rfl<|JS_nt<|QS ?_
  exact JX ((⟨none,0,0⟩,[])) rfl (.tmp rfl (.tmp rfl .nil)) (by unfold vK;rw [if_neg hc0]) (fun F h9=>by unfold vJ;rw [if_neg hc0];exact ZR.nil F)
 ·
  have hc0:=bne_eq_false_iff_eq.1 hc
  obtain ⟨hc1,hc2⟩:=Km hc0
  have hv:=(Yd v).1 hc1
  refine QO<|QC<|QG<|J_sr<|JS_mv rfl<|JS_mv rfl<|QH rfl (fun w F hF h9=>Bj hF (h9.1.1.1.1.1) (h9.1.1.1.1.2.1) (h9.1.1.1.1.2.2) (ht.1) (ht.2.1) (ht.2.2) (hv)) (fun _=>JS_as rfl<|JS_nt<|J_sr<|JS_mv rfl<|QA (QU rfl rfl rfl)<|QE<|QC ?_)
  refine QP rfl (fun hc=>?_) (fun hc=>?_)
  ·
   have ht0:=bne_iff_ne.1 hc
   refine J_sr<|JS_mv rfl<|JS_as rfl<|JS_as rfl<|JS_nt<|QS ?_
   exact JX ((⟨none,0,0⟩,[])) rfl (.tmp rfl (.tmp rfl .nil)) (by unfold vK;rw [if_pos hc0,if_neg ht0]) (fun F h9=>by unfold vJ;rw [if_pos hc0,if_neg ht0];exact ZR.nil F)
  ·
   have ht0:=bne_eq_false_iff_eq.1 hc
   have oa:=KE ht0
   have sa:=oa.ZV
   have hpa:∀ t∈JA (Jp a.2),PW t.2:=oa.pw hv.2
   have la:(JA (Jp a.2)).length≤64:=by unfold JA;rw [List.length_map];exact oa.len
   have hzc:=XR hc2
   have hll:=Ry (Jk c) (JA (Jp a.2))
   refine QO<|QC<|J_sr<|JS_mv rfl<|QH rfl (fun w F hF ⟨⟨⟨⟨⟨⟨hGl,hR,hA⟩,_⟩,_⟩,hs14⟩,_⟩,_⟩=>KV hF hGl (a:=a) hR hA ht oa hv) (fun c26=>JH _ (fun w F hF h=>And.intro h.2.2.2.1 h.2.len) (fun h26p=>?_))
   obtain ⟨e26,l26⟩:=h26p
   refine JS_mv rfl<|QH rfl (fun w F hF h9=>Gv hF h9.1.1.1.1.1.1.1 (ZO hc2).1 (by omega)) (fun x28=>QH rfl (fun w F hF h9=>OA hF (p:=c26) (x:=x28) (by rw [e26];exact h9.1.2) ⟨h9.2.1,h9.2.2⟩ (by omega) (by omega) (by rw [e26];omega)) (fun c29=>JH _ (fun w F hF h=>And.intro h.2.2.2.1 h.2.len) (fun h29p=>?_)))
   obtain ⟨e29,l29⟩:=h29p
   rw [e26] at e29 l29
   refine QH rfl (fun w F hF ⟨⟨⟨⟨⟨⟨⟨⟨⟨hGl,hR,hA⟩,_⟩,_⟩,hs14⟩,_⟩,_⟩,h26⟩,⟨h28,h28_⟩⟩,h29⟩=>WY hF (q:=c29.1.q) (n:=c29.1.n) (cap:=c29.1.cap) (ts:=c29.2) (by rw [e29];rw [e26] at h29;exact h29) hGl (Jz (Q:=fun t=>PW t.2) e29 (fun t ht=>by obtain ⟨y,hy,e⟩:=DP ht;rw [e];exact hpa y hy)) (Jz (Q:=fun t=>JO t.1≤100000000) e29 (fun t ht=>by obtain ⟨y,hy,e⟩:=DP ht;rw [e];have h1:=XJ y.1 (Jk c);have h2:=oa.sz y hy;dsimp only;omega)) (by omega)) (fun c30=>?_)
   rw [e29]
   refine QA (QK rfl rfl)<|QA (QK rfl rfl)<|JS_as rfl<|JS_as rfl<|JS_nt<|QS ?_
   exact JX (c30) rfl (.tmp rfl (.tmp rfl .nil)) (by unfold vK;rw [if_pos hc0,if_pos ht0];rfl) (fun F h9=>by unfold vJ;rw [if_pos hc0,if_pos ht0];exact h9.2)
theorem A3 {w:World} {F:Gs} {a:Yw} {n:Nat} (hF:Fits F w) (hGl:JC F) (hR:Q4 F a.1.q a.1.n 2 (a.2.flatMap KU)) (hA:Zl F a.2) (ht:VB a) (hn:n≤1000000) :
  Qc Tryz.prog 185 [a.1.v,.int .i64 (n:Nat)] w F (.int .i64 (DB (Jp a.2) n)):=by
 dsimp only [Sr.v]
 refine QT.intro (G:=fun F=>JC F∧Q4 F a.1.q a.1.n 2 (a.2.flatMap KU)∧Zl F a.2) Tryz.func185 rfl (by rfl) rfl rfl hF (fun F' hF'=>⟨hGl.le hF',hR.le hF',hA.le hF'⟩)<|J_sr<|JS_as rfl<|JS_nt<|QG<|J_sr<|JS_mv rfl<|QA (QU rfl rfl rfl)<|QH rfl (fun w F hF h9=>Zn hF ) (fun _=>JS_mv rfl<|QA (QU rfl rfl rfl)<|QH rfl (fun w F hF h9=>Zn hF ) (fun _=>QW rfl (Q7 Zj) Y1 H7 rfl rfl (fun b12=>QH rfl (fun w F hF h9=>Z5 hF (Q4.of (cs:=List.map Qx [if decide ((n:Int)=0)=true then 2 else 0,if decide ((n:Int)>25)=true then 5 else 0]) h9.2 rfl) (by decide)) (fun _=>JS_as rfl<|JS_nt<|J_sr<|JS_mv rfl<|QA (QU rfl rfl rfl)<|QE ?_))))
 refine QC ?_
 refine QP rfl (fun hc=>?_) (fun hc=>?_)
 ·
  have hc0:=bne_iff_ne.1 hc
  refine J_sr<|JS_mv rfl<|JS_as rfl<|JS_nt<|QS ?_
  exact F_r1 rfl rfl (congrArg (Value.int .i64) (by unfold DB;rw [if_neg hc0])) (fun F h9=>trivial)
 ·
  have hc0:=bne_eq_false_iff_eq.1 hc
  have hv:=UK hc0
  refine QO<|QC<|J_sr<|JS_mv rfl<|JS_mv rfl<|QA (J7 rfl rfl (by omega))<|QH rfl (fun w F hF h9=>Bj hF (h9.1.1.1.1.1) (h9.1.1.1.1.2.1) (h9.1.1.1.1.2.2) (ht.1) (ht.2.1) (ht.2.2) (by omega)) (fun _=>JS_as rfl<|JS_nt<|QS ?_)
  exact F_r1 rfl rfl (congrArg (Value.int .i64) (by unfold DB;rw [if_pos hc0])) (fun F h9=>trivial)
end
section
open Go.RowKit Ig
def SX (v:Nat) (t:Tm):List Tm:=if 0<Qb t.2 v then [(t.1*((Qb t.2 v:Int):Rat),t.2.set v (Qb t.2 v - 1))] else []
def YC (v:Nat) (l:List Tm):List Tm:=l.flatMap (SX v)
structure u9 (v:Nat) (ps:List XT) where
 i:Nat
 ts:List XT
 le:i≤ps.length
 hI:K4 ts (YC v (JG (ps.take i)))
theorem P8 {v:Nat} {ps:List XT} {i:Nat} (h:i<ps.length):YC v (JG (ps.take (i+1)))=YC v (JG (ps.take i))++SX v (el ps i).t:=by
 rw [Xi h];unfold YC;rw [List.flatMap_append];simp
theorem jM (v:Nat) (ps:List XT) (i:Nat):ZV (YC v (JG (ps.take i)))≤ZV (YC v (JG ps)):=by
 have e:JG ps=JG (ps.take i)++JG (ps.drop i):=by unfold JG;rw [← List.map_append,List.take_append_drop]
 have h:ZV (YC v (JG ps))=ZV (YC v (JG (ps.take i)++JG (ps.drop i))):=by rw [← e]
 unfold YC at h ⊢
 rw [List.flatMap_append,XV] at h;omega
theorem PW.set {l:List Int} (h:PW l) {v:Nat} (hk:0<Qb l v):PW (l.set v (Qb l v - 1)):=by
 refine⟨fun x hx=>?_,by rw [List.length_set];exact h.2⟩
 rcases List.mem_or_eq_of_mem_set hx with hx | rfl
 ·exact h.1 x hx
 ·by_cases hv:v<l.length
  ·have:=h.el hv;omega
  ·have:Qb l v=0:=by simp [Qb,List.getD];intro h;exact absurd h hv
   omega
theorem RP {x:Int} (h:0≤x∧x≤1000000):sz x≤64:=Nat.le_trans (KF (b:=1000000) (by omega)) (by decide)
theorem EF (v:Nat) (l:List Tm):(YC v l).length≤l.length:=by
 unfold YC
 induction l with
 |nil=>simp
 |cons t l ih =>
  rw [List.flatMap_cons,List.length_append,List.length_cons]
  have:(SX v t).length≤1:=by unfold SX;split<;>simp
  omega
theorem OJ {w:World} {F:Gs} {p:Wl} {v:Nat} (hF:Fits F w) (hGl:JC F) (hP:Jm F p.1 p.2 (JG p.2)) (hp:∀ t∈p.2,PW t.t.2∧v<t.t.2.length) (hl:p.2.length≤100000) (hzt:∀ t∈p.2,JO t.t.1≤20000000) (hz:ZV (YC v (JG p.2))≤40000000) :
  QT Tryz.prog 138 [p.1.v,.int .i64 (v:Nat)] w F (fun(c:Wl)=>c.1.v) (fun c F=>Jm F c.1 c.2 (JQ (YC v (JG p.2)))):=by
 have hpn:=hP.2.2.2.2
 dsimp only [Sr.v]
 refine QT.intro (G:=fun F=>JC F∧Jm F p.1 p.2 (JG p.2)) Tryz.func138 rfl (by rfl) rfl rfl hF (fun F' hF'=>⟨hGl.le hF',hP.le hF'⟩)<|J_sr<|JS_as rfl<|JS_nt<|QG<|QB ?_
 refine VS tx (fun m=>?_)
 refine JS_as rfl<|JS_nt<|QG<|J_sr<|JS_mv rfl<|QA (Qi rfl J1)<|JS_mv rfl<|JS_nt<|QX ?_
 refine Jw (ι:=u9 v p.2) [(1,_),(5,_),(11,_),(12,_)] (fun i=>[(13,.int .i64 ((i.i:Nat):Int))]) (fun i=>[(m,X5 tx (Wa i.ts))]) (fun i F=>VY F i.ts) (fun i=>p.2.length - i.i) (⟨0,[],Nat.zero_le _,K4.nil⟩) ⟨rfl,rfl,rfl,rfl,trivial⟩ ⟨rfl,trivial⟩ subl_r (fun _ _ _ h=>by cases h) (fun i=>?_)
 simp only [List.cons_append,List.nil_append]
 have hi:=i.le
 refine J_sr<|QA (QU rfl rfl rfl)<|JS_nt<|QG ?_
 refine QP rfl (fun hc=>?_) (fun hc=>?_)
 ·
  have hlt:i.i<p.2.length:=by have:=dec_t hc;omega
  have htm:=JN hlt
  have hp1:=hp _ htm
  have hra:=(hP.2.1 _ htm).2.2.1
  have hdl:=jM v p.2 i.i
  have hzz:=hzt _ htm
  have hb1:=hp1.1.el hp1.2
  have hl2:=hp1.1.2
  refine QO<|QC<|QG<|QX<|J_sr<|QA (JK (n:=p.1.n) (i.i) (fun F h9=>(h9.1.2).1) rfl rfl J1 JZ (by omega))<|QA (Xq (n:=p.1.n) (vs:=[.int .i64 (el p.2 (i.i)).x.n.s,.slice (el p.2 (i.i)).x.n.q (el p.2 (i.i)).x.n.n (el p.2 (i.i)).x.n.cap,.int .i64 (el p.2 (i.i)).x.d.s,.slice (el p.2 (i.i)).x.d.q (el p.2 (i.i)).x.d.n (el p.2 (i.i)).x.d.cap,.slice (el p.2 (i.i)).r.q (el p.2 (i.i)).r.n (el p.2 (i.i)).r.cap]) ((i.i)*5) (fun F h9=>(h9.1.2).1) (by omega) rfl JZ rfl (fun j v hv=>J2 (f:=YY) (l:=p.2) YE (by omega) hv)) ?_
  refine Qf Zb (fun b7=>?_)
  refine QQ (vs:=[_,_,_,_,_]) rfl rfl rfl JZ rfl .here (.here (.here (.here (.here (.here .nil))))) ⟨rfl,rfl,rfl,rfl,rfl,trivial⟩<|JS_nt<|J_sr<|QA (QI rfl X1 Qv)<|QA (Qo rfl Qv .here (.skip (.skip (.skip (.skip (.here .nil))))))<|JS_mv rfl<|QA (JK (n:=(el p.2 i.i).r.n) (v) (fun F h9=>((h9.1.2.2.1 _ htm).2).1) rfl rfl Qd Qs (by omega))<|QA (JM (n:=(el p.2 i.i).r.n) ((v)*1) (fun F h9=>((h9.1.2.2.1 _ htm).2).1) (by omega) rfl Qs (JJ (o:=(el p.2 i.i).t.2) (by omega)))<|JS_as rfl<|JS_nt<|J_sr<|JS_mv rfl<|QA (QU rfl rfl rfl)<|QE<|QC ?_
  refine QP rfl (fun hc=>?_) (fun hc=>?_)
  ·
   have hkp:=dec_t hc
   refine J_sr<|QA (QI rfl X1 Qv)<|QA (Qo rfl Qv .here (.skip (.skip (.skip (.skip (.here .nil)))))) ?_
   refine XL rfl (List.Perm.refl _) (SJ (r:=(el p.2 i.i).r) (l:=(el p.2 i.i).t.2) (fun F h9=>(h9.1.2.2.1 _ htm).2) hra (by omega)) (fun c26=>?_)
   refine JH _ (fun w F hF h=>h.2) (fun h26=>?_)
   obtain ⟨v26,ob26⟩:=c26
   dsimp only at h26 ⊢
   obtain ⟨bb,cap,rest,rfl,rfl,e1,e2,e3,e4⟩:=Qz.pos h26 (by omega)
   refine JS_as rfl<|JS_nt<|J_sr<|JS_mv rfl<|JS_mv rfl<|QA (Qw (i:=v) rfl rfl Qd Qs (by omega))<|QA (YN (c:=((el p.2 i.i).t.2).map Qx++rest) (T':=3) rfl Qs (.there (.there .here)) (Zh (by first | omega | (simp only [List.length_set];omega))))<|QA (J7 rfl rfl (by omega))<|QA (Qw (i:=v) rfl rfl Qd Qs (by omega))<|QQ (vs:=[_]) rfl rfl rfl Qs rfl (.there (.there .here)) (VK (by first | omega | (simp only [List.length_set];omega)) ((Qb ((el p.2 i.i).t.2) (v) - 1))) ⟨rfl,trivial⟩<|QE<|QC ?_
   obtain ⟨r,hv,hrn,hrc,hfix⟩:=Qz.fix (w0:=w) (F0:=F) (bs1:=[(b7,.cells (YY (el p.2 i.i)).toArray 165 (0,0)),(m,X5 tx (Wa i.ts))]) (G:=_) (Qz.some (T:=3) (sz:=1) (b:=bb) (n:=(el p.2 i.i).r.n) (cap:=cap) (l:=((el p.2 i.i).t.2.set v (Qb (el p.2 i.i).t.2 v - 1)).map Qx) (rest:=rest) (by simpa using e1) (by simpa using e2) e3 e4)
   refine UY hfix ?_
   rw [hv]
   refine JR (.cons_cons _ (.cons _ .slnil)) mixed (by kernel_rfl)<|QM (QD rfl)<|QM (QI rfl Zm Qe)<|QM (QL (vs:=[_,_,_,_]) rfl Qe .here (.here (.here (.here (.here .nil)))) rfl)<|QM (QD rfl) ?_
   refine Qg rfl (fun w F hF h9=>dK hF (by omega) (by omega)) (fun x37=>?_)
   refine Qg rfl (fun w F hF ⟨⟨⟨⟨⟨hGl,hP⟩,hT⟩,_⟩,hrow⟩,⟨h37,h37_⟩⟩=>KK hF ((hP.2.1 _ htm).1) ⟨by assumption,by assumption⟩ (by omega) (by have h2:=Ep (Qb (el p.2 i.i).t.2 v);have h3:sz (Qb (el p.2 i.i).t.2 v)≤64:=RP hb1;omega)) (fun x38=>?_)
   refine QM (QD rfl) ?_
   refine UJ rfl (List.Perm.swap _ _ _) (BI (r:=r) (x:=x38) i.hI (hp1.1.set hkp) (by have h1:=XJ (el p.2 i.i).t.1 ((Qb (el p.2 i.i).t.2 v:Int):Rat);have h2:=Ep (Qb (el p.2 i.i).t.2 v);have h3:sz (Qb (el p.2 i.i).t.2 v)≤64:=RP hb1;omega) (by omega) (fun F h9=>⟨h9.1.1.1.1.1.1,h9.1.1.1.1.2,⟨h9.2.1,h9.2.2⟩,by rw [hrn];exact h9.1.1.2,by rw [hrn,List.length_set];exact hra,by rw [hrn];exact hrc⟩)) (fun n w h=>St.imp h (.cons _ subl_r) (fun F h=>h.1.1.1)) (fun n40=>?_)
   refine MS _ (fun w F hF h=>h.2.2) (fun h40=>?_)
   have hI2:K4 (addN i.ts n40) (YC v (JG (p.2.take (i.i+1)))):=by
    rw [P8 hlt,show SX v (el p.2 i.i).t=[((el p.2 i.i).t.1*((Qb (el p.2 i.i).t.2 v:Int):Rat),(el p.2 i.i).t.2.set v (Qb (el p.2 i.i).t.2 v - 1))] from if_pos hkp]
    exact i.hI.add (hp1.1.set hkp) h40
   refine Q9<|Qk<|QC<|QB<|QA (Qp rfl rfl (by omega))<|JS_mv rfl<|QE ?_
   exact Ql (⟨i.i+1,addN i.ts n40,hlt,hI2⟩) (by show p.2.length - (i.i+1)<p.2.length - i.i;omega) ⟨rfl,rfl,rfl,rfl,rfl,trivial⟩ (.cons_cons _ (.cons _ .slnil)) (fun F h=>⟨h.1.1.1.1.1.1,h.2.1⟩)
  ·
   have hkp:=dec_f hc
   refine QO<|Qk<|QC<|QB<|QA (Qp rfl rfl (by omega))<|JS_mv rfl<|QE ?_
   exact Ql (⟨i.i+1,i.ts,hlt,by rw [P8 hlt,show SX v (el p.2 i.i).t=[] from if_neg hkp,List.append_nil];exact i.hI⟩) (by show p.2.length - (i.i+1)<p.2.length - i.i;omega) ⟨rfl,rfl,rfl,rfl,rfl,trivial⟩ (.cons _ subl_r) (fun F h=>⟨h.1,h.2⟩)
 ·
  have hge:i.i=p.2.length:=by have:=dec_f hc;omega
  refine Qy ?_
  repeat (first | refine QZ ?_ | refine QV (by rfl) ?_)
  refine Qa<|QC<|J_sr<|JS_mv rfl ?_
  have hI:=i.hI
  rw [hge,List.take_length] at hI
  refine XL rfl (List.Perm.refl _) (GS hI (by have h1:=hI.ln;have h2:=EF v (JG p.2);rw [Yy] at h2;omega) (fun F h=>h.2)) (fun c43=>?_)
  refine JS_as rfl<|JS_nt<|QS ?_
  exact QR (c43) rfl (.tmp rfl .nil) (rfl) (fun F h=>h.2)
end
section
open Go.RowKit Ig
def vE (v n:Int):Int:=if decide (v<0)=true∨decide (v>n)=true then 10 else 0
theorem pv {v n:Int} (h:decide (v<0)=true):vE v n=if true=true then 10 else 0:=by unfold vE;rw [if_pos (Or.inl h)];rfl
theorem p4 {v n:Int} (h:decide (v<0)=false):vE v n=if decide (v>n)=true then 10 else 0:=by unfold vE;rw [h];simp
theorem jl {v n:Int} (h:vE v n=0):0≤v∧v≤n:=by
 unfold vE at h
 simp only [decide_eq_true_eq] at h
 split at h<;>omega
def kS (a:Yw) (n v:Int) (l:List Tm):Int:=if Qm [Vq [a] n,vE v n]=0 then WZ l else Qm [Vq [a] n,vE v n]
def kR (a:Yw) (n v:Int) (l:List Tm):Pt:=if Qm [Vq [a] n,vE v n]=0 then Gr l else []
theorem Yh.wide {p:Pt} {v:Int} (h:Yh p v):∀ t∈JA p,(t.2.length:Int)=v+1:=fun t ht=>by
 unfold JA at ht
 obtain ⟨x,hx,rfl⟩:=List.mem_map.1 ht
 exact(Z8 (h.term x hx)).1
theorem D6 {v:Nat} {l:List Tm} {x:Tm} (h:x∈YC v l):∃ t∈l,0<Qb t.2 v∧x=(t.1*((Qb t.2 v:Int):Rat),t.2.set v (Qb t.2 v - 1)):=by
 unfold YC at h
 obtain ⟨t,ht,h⟩:=List.mem_flatMap.1 h
 unfold SX at h
 split at h
 ·rename_i g;rw [List.mem_singleton] at h;exact⟨t,ht,g,h⟩
 ·cases h
theorem UM {v:Nat} {l:List Tm} (h:∀ t∈l,JO t.1≤2400∧PW t.2∧v<t.2.length):∀ x∈YC v l,JO x.1≤2500:=fun x hx=>by
 obtain ⟨t,ht,_,rfl⟩:=D6 hx
 obtain ⟨h1,h2,h3⟩:=h t ht
 have h4:=XJ t.1 ((Qb t.2 v:Int):Rat)
 have h5:=Ep (Qb t.2 v)
 have h6:=RP (h2.el h3)
 dsimp only;omega
theorem SE {w:World} {F:Gs} {a:Yw} {n v:Int} (hF:Fits F w) (hGl:JC F) (hA:Z9 F [a]) (ht:∀ e∈[a],VB e) :
  QT Tryz.prog 41 [a.1.v,.int .i64 n,.int .i64 v] w F (fun(c:Yw)=>.tuple #[c.1.v,.int .i64 (kS a n v (JQ (YC v.toNat (JA (Jp a.2)))))]) (fun c F=>ZR F c.1 c.2 (kR a n v (JQ (YC v.toNat (JA (Jp a.2)))))):=by
 have ha:a∈[a]:=by simp
 dsimp only [Sr.v]
 refine QT.intro (G:=fun F=>JC F∧Z9 F [a]) Tryz.func41 rfl (by rfl) rfl rfl hF (fun F' hF'=>⟨hGl.le hF',hA.le hF'⟩)<|J_sr<|JS_as rfl<|JS_as rfl<|JS_nt<|QG<|J_sr<|JS_mv rfl<|JS_mv rfl<|QW rfl (Q7 DA) Gn jh rfl rfl (fun b11=>QH rfl (fun w F hF h9=>GI hF h9.1.1 (Q4.of (n:=1) (sz:=1) (cs:=[a].map fun e=>e.1.v) h9.2 rfl) (h9.1.2) (rfl) (by decide) (ht)) (fun _=>JS_mv rfl<|QA (QU rfl rfl rfl)<|JS_mv rfl ?_))
 refine Qn (t:=15) rfl (fun hb15=>?_) (fun hb15=>?_)
 ·
  have hve:=pv (n:=n) hb15
  refine QN rfl rfl rfl<|QN rfl rfl rfl<|QN rfl rfl rfl<|QA (Qj rfl rfl rfl)<|QH rfl (fun w F hF h9=>Zn hF ) (fun _=>QW rfl (Q7 Zj) Y1 H7 rfl rfl (fun b21=>QH rfl (fun w F hF h9=>Z5 hF (Q4.of (cs:=List.map Qx [Vq [a] n,vE v n]) (by rw [hve];exact h9.2) rfl) (by decide)) (fun _=>JS_as rfl<|JS_nt<|J_sr<|JS_mv rfl<|QA (QU rfl rfl rfl)<|QE<|QC ?_)))
  refine QP rfl (fun hc=>?_) (fun hc=>?_)
  ·
   have hc0:=bne_iff_ne.1 hc
   refine J_sr<|JS_mv rfl<|JS_as rfl<|JS_as rfl<|JS_nt<|QS ?_
   exact JX ((⟨none,0,0⟩,[])) rfl (.tmp rfl (.tmp rfl .nil)) (by unfold kS;rw [if_neg hc0]) (fun F h9=>by unfold kR;rw [if_neg hc0];exact ZR.nil F)
  ·
   have hc0:=bne_eq_false_iff_eq.1 hc
   obtain ⟨hc1,hc2⟩:=Km hc0
   obtain ⟨hn,hok⟩:=Du hc1
   have hv:=jl hc2
   obtain ⟨k,rfl⟩:=Int.eq_ofNat_of_zero_le hv.1
   rw [Int.toNat_natCast]
   have oa:=hok a ha
   have sa:=oa.ZV
   have hpa:∀ t∈JA (Jp a.2),PW t.2∧k<t.2.length:=fun t ht=>⟨oa.pw hn.2 t ht,by have:=oa.wide t ht;omega⟩
   have la:(JA (Jp a.2)).length≤64:=by unfold JA;rw [List.length_map];exact oa.len
   have hds:=UM (v:=k) (l:=JA (Jp a.2)) fun t ht=>⟨oa.sz t ht,hpa t ht⟩
   have hdl:=EF k (JA (Jp a.2))
   have hdz:=Hf hds
   have hdz2:=Nat.mul_le_mul_right 2501 (Nat.le_trans hdl la)
   have hpn:=D4 (l:=YC k (JA (Jp a.2))) fun t ht=>by
    obtain ⟨y,hy,hk,e⟩:=D6 ht
    rw [e];exact(hpa y hy).1.set hk
   have hln:=Va (YC k (JA (Jp a.2)))
   refine QO<|QC<|J_sr<|JS_mv rfl<|QH rfl (fun w F hF h9=>KV hF h9.1.1.1.1.1.1 (a:=a) (h9.1.1.1.1.1.2 a ha).1 (h9.1.1.1.1.1.2 a ha).2 (ht a ha) oa hn) (fun c27=>JH _ (fun w F hF h=>And.intro h.2.2.2.1 h.2.len) (fun h27p=>?_))
   obtain ⟨e27,l27⟩:=h27p
   refine JS_mv rfl<|QH rfl (fun w F hF h9=>OJ hF h9.1.1.1.1.1.1.1 (p:=c27) (v:=k) (by rw [e27];exact h9.2) (Jz (Q:=fun t=>PW t.2∧k<t.2.length) e27 hpa) (by omega) (Jz (Q:=fun t=>JO t.1≤20000000) e27 (fun t ht=>by have:=oa.sz t ht;omega)) (by rw [e27];omega)) (fun c29=>JH _ (fun w F hF h=>And.intro h.2.2.2.1 h.2.len) (fun h29p=>?_))
   obtain ⟨e29,l29⟩:=h29p
   rw [e27] at e29 l29
   refine QH rfl (fun w F hF ⟨⟨⟨⟨⟨⟨⟨⟨hGl,hA⟩,hs11⟩,_⟩,_⟩,hs21⟩,_⟩,h27⟩,h29⟩=>WY hF (q:=c29.1.q) (n:=c29.1.n) (cap:=c29.1.cap) (ts:=c29.2) (by rw [e29];rw [e27] at h29;exact h29) hGl (Jz (Q:=fun t=>PW t.2) e29 hpn) (Jz (Q:=fun t=>JO t.1≤100000000) e29 (fun t ht=>Nat.le_trans (Hy ht) (by omega))) (by omega)) (fun c30=>?_)
   rw [e29]
   refine QA (QK rfl rfl)<|QA (QK rfl rfl)<|JS_as rfl<|JS_as rfl<|JS_nt<|QS ?_
   exact JX (c30) rfl (.tmp rfl (.tmp rfl .nil)) (by unfold kS;rw [if_pos hc0];rfl) (fun F h9=>by unfold kR;rw [if_pos hc0];exact h9.2)
 ·
  have hve:=p4 (n:=n) hb15
  refine QJ rfl rfl<|JS_mv rfl<|QJ rfl rfl<|JS_mv rfl<|QJ rfl rfl<|QA (QU rfl rfl rfl)<|QA (Qh rfl rfl rfl)<|QH rfl (fun w F hF h9=>Zn hF ) (fun _=>QW rfl (Q7 Zj) Y1 H7 rfl rfl (fun b21=>QH rfl (fun w F hF h9=>Z5 hF (Q4.of (cs:=List.map Qx [Vq [a] n,vE v n]) (by rw [hve];exact h9.2) rfl) (by decide)) (fun _=>JS_as rfl<|JS_nt<|J_sr<|JS_mv rfl<|QA (QU rfl rfl rfl)<|QE<|QC ?_)))
  refine QP rfl (fun hc=>?_) (fun hc=>?_)
  ·
   have hc0:=bne_iff_ne.1 hc
   refine J_sr<|JS_mv rfl<|JS_as rfl<|JS_as rfl<|JS_nt<|QS ?_
   exact JX ((⟨none,0,0⟩,[])) rfl (.tmp rfl (.tmp rfl .nil)) (by unfold kS;rw [if_neg hc0]) (fun F h9=>by unfold kR;rw [if_neg hc0];exact ZR.nil F)
  ·
   have hc0:=bne_eq_false_iff_eq.1 hc
   obtain ⟨hc1,hc2⟩:=Km hc0
   obtain ⟨hn,hok⟩:=Du hc1
   have hv:=jl hc2
   obtain ⟨k,rfl⟩:=Int.eq_ofNat_of_zero_le hv.1
   rw [Int.toNat_natCast]
   have oa:=hok a ha
   have sa:=oa.ZV
   have hpa:∀ t∈JA (Jp a.2),PW t.2∧k<t.2.length:=fun t ht=>⟨oa.pw hn.2 t ht,by have:=oa.wide t ht;omega⟩
   have la:(JA (Jp a.2)).length≤64:=by unfold JA;rw [List.length_map];exact oa.len
   have hds:=UM (v:=k) (l:=JA (Jp a.2)) fun t ht=>⟨oa.sz t ht,hpa t ht⟩
   have hdl:=EF k (JA (Jp a.2))
   have hdz:=Hf hds
   have hdz2:=Nat.mul_le_mul_right 2501 (Nat.le_trans hdl la)
   have hpn:=D4 (l:=YC k (JA (Jp a.2))) fun t ht=>by
    obtain ⟨y,hy,hk,e⟩:=D6 ht
    rw [e];exact(hpa y hy).1.set hk
   have hln:=Va (YC k (JA (Jp a.2)))
   refine QO<|QC<|J_sr<|JS_mv rfl<|QH rfl (fun w F hF h9=>KV hF h9.1.1.1.1.1.1 (a:=a) (h9.1.1.1.1.1.2 a ha).1 (h9.1.1.1.1.1.2 a ha).2 (ht a ha) oa hn) (fun c27=>JH _ (fun w F hF h=>And.intro h.2.2.2.1 h.2.len) (fun h27p=>?_))
   obtain ⟨e27,l27⟩:=h27p
   refine JS_mv rfl<|QH rfl (fun w F hF h9=>OJ hF h9.1.1.1.1.1.1.1 (p:=c27) (v:=k) (by rw [e27];exact h9.2) (Jz (Q:=fun t=>PW t.2∧k<t.2.length) e27 hpa) (by omega) (Jz (Q:=fun t=>JO t.1≤20000000) e27 (fun t ht=>by have:=oa.sz t ht;omega)) (by rw [e27];omega)) (fun c29=>JH _ (fun w F hF h=>And.intro h.2.2.2.1 h.2.len) (fun h29p=>?_))
   obtain ⟨e29,l29⟩:=h29p
   rw [e27] at e29 l29
   refine QH rfl (fun w F hF ⟨⟨⟨⟨⟨⟨⟨⟨hGl,hA⟩,hs11⟩,_⟩,_⟩,hs21⟩,_⟩,h27⟩,h29⟩=>WY hF (q:=c29.1.q) (n:=c29.1.n) (cap:=c29.1.cap) (ts:=c29.2) (by rw [e29];rw [e27] at h29;exact h29) hGl (Jz (Q:=fun t=>PW t.2) e29 hpn) (Jz (Q:=fun t=>JO t.1≤100000000) e29 (fun t ht=>Nat.le_trans (Hy ht) (by omega))) (by omega)) (fun c30=>?_)
   rw [e29]
   refine QA (QK rfl rfl)<|QA (QK rfl rfl)<|JS_as rfl<|JS_as rfl<|JS_nt<|QS ?_
   exact JX (c30) rfl (.tmp rfl (.tmp rfl .nil)) (by unfold kS;rw [if_pos hc0];rfl) (fun F h9=>by unfold kR;rw [if_pos hc0];exact h9.2)
end
section
open Go.RowKit Ig
def CK (F:Gs) (xs:List (Fr×Rat)):Prop:=∀ p∈xs,JV F p.1 p.2
theorem CK.le {F F':Gs} {xs:List (Fr×Rat)} (h:CK F xs) (k:Gs.le F F'):CK F' xs:=fun p hp=>(h p hp).le k
def FH (xs:List (Fr×Rat)):List Value:=xs.flatMap fun p=>UR p.1
structure kb (ss:List (List UInt8)) where
 i:Nat
 xs:List (Fr×Rat)
 le:i≤ss.length
 hx:xs.map (·.2)=(ss.take i).map Jk
theorem kb.len {ss:List (List UInt8)} (s:kb ss):s.xs.length=s.i:=by
 have:=congrArg List.length s.hx
 have h:=s.le
 simp only [List.length_map,List.length_take] at this;omega
end
section
open Go.RowKit Ig
def BC (c:Rat) (xs:List Rat) (ks:List Int) (i:Nat):Rat:=(List.range i).foldl (fun a j=>a*(el xs j)^(Qb ks j).toNat) c
structure EvO (n:Nat) where
 i:Nat
 x:Fr
 le:i≤n
structure EvI (n:Nat) where
 j:Nat
 y:Fr
 le:j≤n
instance :Inhabited Fr:=⟨⟨⟨0,none,0,0⟩,⟨1,none,0,0⟩⟩⟩
instance :Inhabited (Fr×Rat):=⟨(default,0)⟩
end
section
open Go.RowKit Ig
theorem R9 {l:List Int} (h:Qm l=0):∀ x∈l,x=0:=by
 induction l with
 |nil=>intro x hx;cases hx
 |cons a l ih =>
  intro x hx
  unfold Qm at h
  by_cases g:a=0
  ·rw [if_pos g] at h
   rcases List.mem_cons.1 hx with rfl | hx
   ·exact g
   ·exact ih h x hx
  ·rw [if_neg g] at h;exact absurd h g
end
section
open Go.RowKit Ig
def Ss (s:List UInt8×List UInt8):List Value:=[tx s.1,tx s.2]
def Oz (ss:List (List UInt8×List UInt8)):List Rat:=ss.flatMap fun s=>[Jk s.1,Jk s.2]
theorem PL {B:Nat}:∀ (l:List Rat) (s:Rat×Rat),JO s.1≤B→JO s.2≤B→(∀ x∈l,JO x≤B)→JO (l.foldl Yl s).1≤B∧JO (l.foldl Yl s).2≤B
 |[],s,h1,h2,_=>⟨h1,h2⟩
 |x::l,s,h1,h2,h=>by
  have hx:=h x (by simp)
  exact PL l (Yl s x) (by unfold Yl;dsimp only;split<;>assumption) (by unfold Yl;dsimp only;split<;>assumption) fun y hy=>h y (by simp [hy])
structure dA (ss:List (List UInt8×List UInt8)) where
 i:Nat
 v:Value
 ob:List (Nat×Obj)
 xs:List (Fr×Rat)
 le:i≤ss.length
 hr:Qz 130 4 v (i*2) (FH xs) ob
 hx:xs.map (·.2)=Oz (ss.take i)
theorem IT (ss:List (List UInt8×List UInt8)):(Oz ss).length=ss.length*2:=by
 unfold Oz
 induction ss with
 |nil=>rfl
 |cons s l ih=>rw [List.flatMap_cons,List.length_append,ih];simp only [List.length_cons,List.length_nil];omega
theorem dA.len {ss:List (List UInt8×List UInt8)} (s:dA ss):s.xs.length=s.i*2:=by
 have:=congrArg List.length s.hx
 have h:=s.le
 rw [IT] at this
 simp only [List.length_map,List.length_take] at this;omega
end
section
open Go.RowKit Ig
structure yU (a b:List Int) where
 i:Nat
 le:i≤a.length
 h:a.take i=b.take i
structure kc (a b:List Int) where
 i:Nat
 le:i≤a.length
 h:Zi a b=Zi (a.drop i) (b.drop i)
theorem yU.next {a b:List Int} (s:yU a b) (h1:s.i<a.length) (h2:s.i<b.length) (e:Qb a s.i=Qb b s.i):a.take (s.i+1)=b.take (s.i+1):=by
 rw [X4 h1,X4 h2,s.h,← Xx h1,← Xx h2,e]
theorem kc.step {a b:List Int} (s:kc a b) (h1:s.i<a.length) (h2:s.i<b.length):Zi a b=(decide (Qb b s.i<Qb a s.i)||(decide (Qb a s.i=Qb b s.i)&&Zi (a.drop (s.i+1)) (b.drop (s.i+1)))):=by
 rw [s.h,J8 h1,J8 h2];rfl
theorem S4 {w:World} {F:Gs} {q q2:Option Addr} {n c n2 c2:Nat} {a b:List Int} (hF:Fits F w) (hA:JL F ⟨q,n,c⟩ a) (hB:JL F ⟨q2,n2,c2⟩ b) (la:a.length≤1000000):Qc Tryz.prog 140 [.slice q n c,.slice q2 n2 c2] w F (.bool (decide (a=b))):=by
 have na:=hA.2.1
 have nb:=hB.2.1
 dsimp only at na nb
 refine QT.intro (G:=fun F=>JL F ⟨q,n,c⟩ a∧JL F ⟨q2,n2,c2⟩ b) Tryz.func140 rfl (by rfl) rfl rfl hF (fun F' hF'=>⟨hA.le hF',hB.le hF'⟩)<|J_sr<|JS_as rfl<|JS_nt<|QG<|J_sr<|JS_mv rfl<|QA (Qi rfl Qd)<|JS_mv rfl<|QA (Qi rfl Qd)<|QA (QU rfl rfl rfl)<|QE<|QC ?_
 refine QP rfl (fun hc=>?_) (fun hc=>?_)
 ·
  have hne:=bne_iff_ne.1 hc
  refine J_sr<|JS_as rfl<|JS_nt<|QS ?_
  exact F_r1 rfl rfl (congrArg Value.bool (decide_eq_false (fun e=>hne (by rw [← na,← nb,e])))) (fun F h9=>trivial)
 ·
  have hne:=bne_eq_false_iff_eq.1 hc
  refine QO<|QC<|QG<|J_sr<|JS_as rfl<|JS_nt<|QX<|ZT (ι:=yU a b) [(0,_),(1,_)] (fun i=>[(5,.int .i64 ((i.i:Nat):Int))]) (fun i=>a.length - i.i) (⟨0,Nat.zero_le _,rfl⟩) ⟨rfl,rfl,trivial⟩ ⟨rfl,trivial⟩ (fun i=>?_)
  simp only [List.cons_append,List.nil_append]
  have hi:=i.le
  refine QG<|J_sr<|JS_mv rfl<|JS_mv rfl<|QA (Qi rfl Qd)<|QA (QU rfl rfl rfl)<|QE<|QC ?_
  refine QP rfl (fun hc=>?_) (fun hc=>?_)
  ·
   have hlt:i.i<a.length:=by have:=dec_t hc;omega
   refine QO<|QC<|QG<|QX<|QG<|JR subl_r mixed (by kernel_rfl)<|QM (QD rfl)<|QM (QD rfl)<|QM (JK (n:=n) (i.i) (fun F h9=>(h9.1).1) rfl rfl Qd Qs (by omega))<|QM (JM (n:=n) ((i.i)*1) (fun F h9=>(h9.1).1) (by omega) rfl Qs (JJ (o:=a) (by omega)))<|QM (QD rfl)<|QM (QD rfl)<|QM (JK (n:=n2) (i.i) (fun F h9=>(h9.2).1) rfl rfl Qd Qs (by omega))<|QM (JM (n:=n2) ((i.i)*1) (fun F h9=>(h9.2).1) (by omega) rfl Qs (JJ (o:=b) (by omega)))<|QM (QU rfl rfl rfl)<|Q9<|QC ?_
   refine QP rfl (fun hc=>?_) (fun hc=>?_)
   ·
    have he:=bne_iff_ne.1 hc
    refine J_sr<|JS_as rfl<|JS_nt<|QS ?_
    repeat (first | refine JE ?_ | refine Q3 ?_)
    exact F_r1 rfl rfl (congrArg Value.bool (decide_eq_false (fun e=>he (congrArg (fun z=>Qb z i.i) e)))) (fun F h9=>trivial)
   ·
    have he:=bne_eq_false_iff_eq.1 hc
    refine QO<|Qk<|QC<|QB<|JS_mv rfl<|QA (Qp rfl rfl (by omega))<|JS_as rfl<|QE ?_
    exact Ql (⟨i.i+1,hlt,i.next hlt (by omega) he⟩) (by show a.length - (i.i+1)<a.length - i.i;omega) ⟨rfl,rfl,rfl,trivial⟩ subl_r (fun F h=>h)
  ·
   have hge:i.i=a.length:=by have:=dec_f hc;omega
   refine Qy ?_
   repeat (first | refine QZ ?_ | refine QV (by rfl) ?_)
   refine Qa<|QC<|J_sr<|JS_as rfl<|JS_nt<|QS ?_
   exact F_r1 rfl rfl (congrArg Value.bool (decide_eq_true (by have h:=i.h;rw [hge,List.take_length,List.take_of_length_le (by omega)] at h;exact h))) (fun F h9=>trivial)
end
section
open Go.RowKit Ig
structure yR (a b:List Vr) where
 i:Nat
 le:i≤a.length
 h:(Jp a).take i=(Jp b).take i
theorem VV (a:List Vr):(Jp a).length=a.length:=by simp [Jp]
theorem yR.next {a b:List Vr} (s:yR a b) (h1:s.i<a.length) (h2:s.i<b.length) (e1:(el a s.i).f=(el b s.i).f) (e2:(el a s.i).k=(el b s.i).k):(Jp a).take (s.i+1)=(Jp b).take (s.i+1):=by
 rw [X4 (by rw [VV];exact h1),X4 (by rw [VV];exact h2),s.h,Gy h1,Gy h2,e1,e2]
theorem RY {a b:List Vr} {i:Nat} (h1:i<a.length) (h2:i<b.length) (h:Jp a=Jp b):(el a i).f=(el b i).f∧(el a i).k=(el b i).k:=by
 have e1:=Gy h1
 have e2:=Gy h2
 rw [h,e2] at e1
 have:=Prod.mk.inj e1
 exact⟨this.1.symm,this.2.symm⟩
theorem H4 {w:World} {F:Gs} {q q2:Option Addr} {n cap n2 cap2:Nat} {a b:List Vr} (hF:Fits F w) (hR:Q4 F q n 2 (a.flatMap KU)) (hP:Zl F a) (hR2:Q4 F q2 n2 2 (b.flatMap KU)) (hP2:Zl F b) (hln:a.length=n) (hln2:b.length=n2) (hf:∀ t∈a,t.k.length≤1000000) (hl:a.length≤1000000):Qc Tryz.prog 43 [.slice q n cap,.slice q2 n2 cap2] w F (.bool (decide (Jp a=Jp b))):=by
 refine QT.intro (G:=fun F=>Q4 F q n 2 (a.flatMap KU)∧Zl F a∧Q4 F q2 n2 2 (b.flatMap KU)∧Zl F b) Tryz.func43 rfl (by rfl) rfl rfl hF (fun F' hF'=>⟨hR.le hF',hP.le hF',hR2.le hF',hP2.le hF'⟩)<|J_sr<|JS_as rfl<|JS_nt<|QG<|J_sr<|JS_mv rfl<|QA (Qi rfl Xk)<|JS_mv rfl<|QA (Qi rfl Xk)<|QA (QU rfl rfl rfl)<|QE<|QC ?_
 refine QP rfl (fun hc=>?_) (fun hc=>?_)
 ·
  have hne:=bne_iff_ne.1 hc
  refine J_sr<|JS_as rfl<|JS_nt<|QS ?_
  exact F_r1 rfl rfl (congrArg Value.bool (decide_eq_false (fun e=>hne (by rw [← hln,← hln2,← VV a,← VV b,e])))) (fun F h9=>trivial)
 ·
  have hne:=bne_eq_false_iff_eq.1 hc
  refine QO<|QC<|QG<|J_sr<|JS_as rfl<|JS_nt<|QX<|ZT (ι:=yR a b) [(0,_),(1,_)] (fun i=>[(5,.int .i64 ((i.i:Nat):Int))]) (fun i=>a.length - i.i) (⟨0,Nat.zero_le _,rfl⟩) ⟨rfl,rfl,trivial⟩ ⟨rfl,trivial⟩ (fun i=>?_)
  simp only [List.cons_append,List.nil_append]
  have hi:=i.le
  refine QG<|J_sr<|JS_mv rfl<|JS_mv rfl<|QA (Qi rfl Xk)<|QA (QU rfl rfl rfl)<|QE<|QC ?_
  refine QP rfl (fun hc=>?_) (fun hc=>?_)
  ·
   have hlt:i.i<a.length:=by have:=dec_t hc;omega
   have hlt2:i.i<b.length:=by omega
   have hta:=JN hlt
   have htb:=JN hlt2
   refine QO<|QC<|QG<|QX<|QG<|JR subl_r mixed (by kernel_rfl)<|QM (QD rfl)<|QM (QD rfl)<|QM (JK (n:=n) (i.i) (fun F h9=>h9.1) rfl rfl Xk XO (by omega))<|QM (QI rfl WQ Jy)<|QM (JM (n:=n) ((i.i)*2+0) (fun F h9=>h9.1) (by omega) rfl Jy (J2 (f:=KU) (l:=a) YP (by omega) rfl))<|QM (QD rfl)<|QM (QD rfl)<|QM (JK (n:=n2) (i.i) (fun F h9=>h9.2.2.1) rfl rfl Xk XO (by omega))<|QM (QI rfl WQ Jy)<|QM (JM (n:=n2) ((i.i)*2+0) (fun F h9=>h9.2.2.1) (by omega) rfl Jy (J2 (f:=KU) (l:=b) YP (by omega) rfl))<|QM (L4 rfl rfl)<|QM (QD rfl) ?_
   refine HQ (t:=28) rfl (fun hb28=>?_) (fun hb28=>?_)
   ·
    have h28:¬ (el a i.i).f=(el b i.i).f:=bne_iff_ne.1 hb28
    refine Jl rfl rfl rfl<|Jl rfl rfl rfl<|Jl rfl rfl rfl<|Jl rfl rfl rfl<|Jl rfl rfl rfl<|Jl rfl rfl rfl<|Jl rfl rfl rfl<|Jl rfl rfl rfl<|Jl rfl rfl rfl<|Jl rfl rfl rfl<|Jl rfl rfl rfl<|Jl rfl rfl rfl<|QM (Qj rfl rfl rfl)<|Q9<|QC<|Wu rfl<|J_sr<|JS_as rfl<|JS_nt<|QS ?_
    repeat (first | refine JE ?_ | refine Q3 ?_)
    exact F_r1 rfl rfl (congrArg Value.bool (decide_eq_false (fun e=>by first | exact h28 (RY hlt hlt2 e).1 | (have g:=(RY hlt hlt2 e).2;rw [g] at hc;simp at hc)))) (fun F h9=>trivial)
   ·
    have h28:(el a i.i).f=(el b i.i).f:=bne_eq_false_iff_eq.1 hb28
    refine Jx rfl rfl<|QM (QD rfl)<|Jx rfl rfl<|QM (QD rfl)<|Jx rfl rfl<|QM (JK (n:=n) (i.i) (fun F h9=>h9.1) rfl rfl Xk XO (by omega))<|Jx rfl rfl<|QM (QI rfl Yp Qv)<|Jx rfl rfl<|QM (JM (n:=n) ((i.i)*2+1) (fun F h9=>h9.1) (by omega) rfl Qv (J2 (f:=KU) (l:=a) YP (by omega) rfl))<|Jx rfl rfl<|QM (QD rfl)<|Jx rfl rfl<|QM (QD rfl)<|Jx rfl rfl<|QM (JK (n:=n2) (i.i) (fun F h9=>h9.2.2.1) rfl rfl Xk XO (by omega))<|Jx rfl rfl<|QM (QI rfl Yp Qv)<|Jx rfl rfl<|QM (JM (n:=n2) ((i.i)*2+1) (fun F h9=>h9.2.2.1) (by omega) rfl Qv (J2 (f:=KU) (l:=b) YP (by omega) rfl))<|Jx rfl rfl<|Qg rfl (fun w F hF h9=>S4 hF (a:=(el a i.i).k) (b:=(el b i.i).k) (h9.2.1 _ hta) (h9.2.2.2 _ htb) (hf _ hta)) (fun _=>Jx rfl rfl<|QM (Z0 rfl)<|QM (Qh rfl rfl rfl) ?_)
    refine Q9<|QC ?_
    refine QP rfl (fun hc=>?_) (fun hc=>?_)
    ·
     refine J_sr<|JS_as rfl<|JS_nt<|QS ?_
     repeat (first | refine JE ?_ | refine Q3 ?_)
     exact F_r1 rfl rfl (congrArg Value.bool (decide_eq_false (fun e=>by first | exact h28 (RY hlt hlt2 e).1 | (have g:=(RY hlt hlt2 e).2;rw [g] at hc;simp at hc)))) (fun F h9=>trivial)
    ·
     refine QO<|Qk<|QC<|QB<|JS_mv rfl<|QA (Qp rfl rfl (by omega))<|JS_as rfl<|QE ?_
     exact Ql (⟨i.i+1,hlt,i.next hlt hlt2 h28 (by simpa using hc)⟩) (by show a.length - (i.i+1)<a.length - i.i;omega) ⟨rfl,rfl,rfl,trivial⟩ subl_r (fun F h=>h.1)
  ·
   have hge:i.i=a.length:=by have:=dec_f hc;omega
   refine Qy ?_
   repeat (first | refine QZ ?_ | refine QV (by rfl) ?_)
   refine Qa<|QC<|J_sr<|JS_as rfl<|JS_nt<|QS ?_
   exact F_r1 rfl rfl (congrArg Value.bool (decide_eq_true (by have h:=i.h;rw [hge,List.take_of_length_le (by rw [VV];omega),List.take_of_length_le (by rw [VV];omega)] at h;exact h))) (fun F h9=>trivial)
end
section
open Go.RowKit Ig
structure Ek {α:Type} (l:List α) (p:α→Bool) where
 i:Nat
 le:i≤l.length
 z:∀ x∈l.take i,p x=false
section
variable {α:Type} [Inhabited α] {l:List α} {p:α→Bool}
def Ek.start (l:List α) (p:α→Bool):Ek l p:=⟨0,Nat.zero_le _,by simp⟩
def Ek.next (s:Ek l p) (h:s.i<l.length) (e:p (el l s.i)=false):Ek l p:=⟨s.i+1,h,fun x hx=>by
 rw [X4 h] at hx
 rcases List.mem_append.1 hx with hx | hx
 ·exact s.z x hx
 ·rw [List.mem_singleton.1 hx];exact e⟩
theorem Ek.hit (s:Ek l p) (h:s.i<l.length) (e:p (el l s.i)=true):l.any p=true:=List.any_eq_true.2 ⟨_,JN h,e⟩
theorem Ek.stop (s:Ek l p) (h:l.length≤s.i):¬ l.any p=true:=by
 rw [List.any_eq_true]
 rintro ⟨x,hx,e⟩
 have:=s.z x (by rw [List.take_of_length_le h];exact hx)
 rw [this] at e;cases e
end
end
section
open Go.RowKit Ig
section
variable {P:Program} {Q:Exit→Act→World→Prop} {N:Nat} {m:Sl} {E0:Env} {ops:Array Oper} {l:List Oper} {w0:World} {F0:Gs} {bs:List (Nat×Obj)} {G:Gs→Prop} {ty:TypeId}
theorem je {d:Nat} {pos:String} {aft:Array Edge} {t e:TypeId} {sz bytes n:Nat} {z:List Value} {g:Bool} {X Y:Operand} {kl:IntKind} (hx:ev m X=some (.int kl (n:Int))) (hy:ev m Y=some (.int kl (n:Int))) (ht:H2 P t=some e) (hs:YA P e=some (g,sz)) (hz:XI P e=some z) (hzl:z.length=sz) (hby:YJ P e=some bytes) (h63:(n:Int)≤9223372036854775807) (h48:n*bytes≤281474976710656)
  (k:∀ b,JD P ops Q E0 l N ((d,.slice (some ⟨b,0,none⟩) n n)::m) ⟨w0,F0,(b,.cells (X2 z n).toArray e (0,0))::bs,G⟩) (hu:WJ e=true:=by rfl) (hd:J4 N (some d)=true:=by rfl) :
  JD P ops Q E0 (⟨some d,.makeSlice t X Y,ty,pos,aft,none⟩::l) N m ⟨w0,F0,bs,G⟩:=fun hE a w ha hw=>by
 have hS:=hw.alloc (.cells (X2 z n).toArray e (0,0)) (Xj hu)
 have sub:∀ w' b,St ⟨w0,F0,(b,.cells (X2 z n).toArray e (0,0))::bs,G⟩ w'→St E0 w':=fun w' b h=>hE w' (h.imp (List.sublist_cons_self _ _) fun _ h=>h)
 refine .inr ⟨rfl,?_⟩
 rw [if_pos (by simp [Region.wanted])]
 exact upon_value (by
  simp only [execOp,ha.ev hx,ha.ev hy,Sem.run_bind,PX ht hs hz hzl hby h63 h48,Result.andThen_ok,Sem.run_pure]) ⟨sub _ _ hS,k _ (fun w' h=>sub w' _ h) _ _ (ha.put hd _) hS⟩
end
def Yg (a:Rat) (k:Nat):List Tm:=if a=0 then [] else [(a,List.replicate k 0)]
theorem TH {w:World} {F:Gs} {x:Fr} {a:Rat} {k:Nat} (hF:Fits F w) (hA:JV F x a) (hk:k≤1000):QT Tryz.prog 222 [x.v,.int .i64 (k:Nat)] w F (fun(c:Wl)=>c.1.v) (fun c F=>Jm F c.1 c.2 (Yg a k)):=by
 dsimp only [Fr.v]
 refine QT.intro (G:=fun F=>JV F x a) Tryz.func222 rfl (by rfl) rfl rfl hF (fun F' hF'=>hA.le hF')<|J_sr<|Q5 rfl (vs:=[_,_,_,_]) rfl (fun b2=>JS_as rfl<|JS_nt<|QG<|J_sr<|QA (QL (vs:=[_,_,_,_]) rfl Qe .here (.here (.here (.here (.here .nil)))) rfl)<|QH rfl (fun w F hF ⟨hxn,hxd⟩=>Gf hF ⟨by assumption,by assumption⟩) (fun _=>QA (QU rfl rfl rfl)<|QE<|QC ?_))
 refine QP rfl (fun hc=>?_) (fun hc=>?_)
 ·
  have ha0:a=0:=BN.1 (by simpa using hc)
  refine J_sr<|JS_as rfl<|JS_nt<|QS ?_
  exact QR ((⟨none,0,0⟩,[])) rfl (.tmp rfl .nil) (rfl) (fun F h9=>⟨Q4.nil F none 5,(fun _ h=>by cases h),by unfold Yg;rw [if_pos ha0];rfl,Nat.le_refl _,rfl⟩)
 ·
  have ha0:a≠0:=fun e=>by rw [e] at hc;cases hc
  refine QO<|QC<|QG<|JR subl_r mixed (by kernel_rfl)<|QM (QL (vs:=[_,_,_,_]) rfl Qe .here (.here (.here (.here (.here .nil)))) rfl)<|QM (QD rfl)<|je (n:=k) (bytes:=8) rfl rfl Qd Qs Vj rfl Db (by omega) (by omega) (fun b10=>?_)
  rw [show X2 [Value.int .i64 0] k=(List.replicate k (0:Int)).map Qx by rw [VD];simp [Qx]]
  refine I1 (b:=b10) .here subl_r (fun _ h=>h)<|QM (Q6 rfl M4 Zb (.cons (vs:=[_,_,_,_]) rfl rfl rfl (.here (.here (.here (.here .nil)))) (.cons (vs:=[_]) rfl rfl rfl (.skip (.skip (.skip (.skip (.here .nil))))) .nil))) ?_
  refine Jt rfl (Q7 J1) JZ Zb rfl rfl (fun b12=>?_) (fun w h=>h.imp (.cons_cons _ .slnil) (fun F h=>h.1))
  refine QM (QF rfl)<|Q9<|QC<|QS ?_
  exact QR ((⟨some ⟨b12,0,none⟩,1,1⟩,[⟨x,⟨some ⟨b10,0,none⟩,k,k⟩,(a,(List.replicate k (0:Int)))⟩])) rfl (.tmp rfl .nil) (rfl) (fun F ⟨⟨⟨⟨hxn,hxd⟩,_⟩,hz⟩,hs12⟩=>⟨Q4.of hs12 rfl,fun t ht=>by
  rw [List.mem_singleton.1 ht]
  exact⟨⟨hxn,hxd⟩,Q4.of hz (by simp),by simp,Nat.le_refl _⟩,by unfold Yg;rw [if_neg ha0];rfl,Nat.le_refl _,rfl⟩)
end
section
open Go.RowKit Ig
def WH (p:List Tm) (k:Nat):Nat→List Tm
 |0=>Yg 1 k
 |i+1=>JQ (Q8 (WH p k i) p)
structure uv (n:Nat) where
 i:Nat
 c:Wl
 le:i≤n
structure B0 (p q:List Tm) (N:Nat):Prop where
 wp:∀ t∈p,t.2.length=N
 wq:∀ t∈q,t.2.length=N
 lp:p.length≤10000
 lq:q.length≤10000
 pp:∀ t∈p,PW t.2
 pq:∀ t∈q,PW t.2
 pm:∀ s∈p,∀ t∈q,PW (J0 s.2 t.2)
 zp:ZV p≤20000000
 zq:ZV q≤20000000
 zm:ZV (Q8 p q)≤40000000
theorem TF {w:World} {F:Gs} {p q:Wl} {N:Nat} (hF:Fits F w) (hGl:JC F) (hP:Jm F p.1 p.2 (JG p.2)) (hQ:Jm F q.1 q.2 (JG q.2)) (hN:N≤1000) (h:B0 (JG p.2) (JG q.2) N) :
  QT Tryz.prog 223 [p.1.v,q.1.v] w F (fun(c:Wl)=>c.1.v) (fun c F=>Jm F c.1 c.2 (JQ (Q8 (JG p.2) (JG q.2)))) :=
 zJ hF hGl hP hQ ⟨fun t ht=>h.wp _ (List.mem_map_of_mem ht),fun t ht=>h.wq _ (List.mem_map_of_mem ht)⟩ hN ⟨by have:=h.lp;rwa [Yy] at this,by have:=h.lq;rwa [Yy] at this⟩
  ⟨fun t ht=>h.pp _ (List.mem_map_of_mem ht),fun t ht=>h.pq _ (List.mem_map_of_mem ht),fun s hs t ht=>h.pm _ (List.mem_map_of_mem hs) _ (List.mem_map_of_mem ht)⟩ ⟨h.zp,h.zq⟩ h.zm
theorem zI {w:World} {F:Gs} {p:Wl} {n k:Nat} (hF:Fits F w) (hGl:JC F) (hP:Jm F p.1 p.2 (JG p.2)) (hk:k≤1000) (hn:n≤1000000) (hm:∀ i,i<n→B0 (WH (JG p.2) k i) (JG p.2) k) :
  QT Tryz.prog 224 [p.1.v,.int .i64 (n:Nat),.int .i64 (k:Nat)] w F (fun(c:Wl)=>c.1.v) (fun c F=>Jm F c.1 c.2 (WH (JG p.2) k n)):=by
 dsimp only [Sr.v]
 refine QT.intro (G:=fun F=>JC F∧Jm F p.1 p.2 (JG p.2)) Tryz.func224 rfl (by rfl) rfl rfl hF (fun F' hF'=>⟨hGl.le hF',hP.le hF'⟩)<|J_sr<|JS_as rfl<|JS_nt<|J_sr<|QH rfl (fun w F hF h9=>dK hF (by omega) (by omega)) (fun x8=>JS_mv rfl<|QH rfl (fun w F hF h9=>TH (a:=1) hF ⟨h9.2.1,h9.2.2⟩ hk) (fun c10=>JS_as rfl<|JS_nt<|QG<|J_sr<|JS_mv rfl<|JS_mv rfl<|JS_nt<|QX<|Jw (ι:=uv n) [(0,_),(11,_)] (fun i=>[(7,i.c.1.v),(12,.int .i64 ((i.i:Nat):Int))]) (fun i=>[]) (fun i F=>Jm F i.c.1 i.c.2 (WH (JG p.2) k i.i)) (fun i=>n - i.i) (⟨0,c10,Nat.zero_le _⟩) ⟨rfl,rfl,trivial⟩ ⟨rfl,rfl,trivial⟩ subl_r (fun _ h=>h.2) (fun i=>?_)))
 simp only [List.cons_append,List.nil_append]
 have hi:=i.le
 refine J_sr<|QA (QU rfl rfl rfl)<|JS_nt<|QG ?_
 refine QP rfl (fun hc=>?_) (fun hc=>?_)
 ·
  have hlt:i.i<n:=by have:=dec_t hc;omega
  refine QO<|QC<|QG<|QX<|QB<|JS_mv rfl<|JS_mv rfl<|JH _ (fun w F hF h9=>h9.2.2.2.1) (fun hce=>QH rfl (fun w F hF h9=>TF (N:=k) hF h9.1.1.1.1 (p:=i.c) (q:=p) (by rw [hce];exact h9.2) h9.1.1.1.2 hk (by rw [hce];exact hm _ hlt)) (fun c16=>?_))
  rw [hce]
  refine JS_as rfl<|QE<|Qk<|QC<|QB<|QA (Qp rfl rfl (by omega))<|JS_mv rfl<|QE ?_
  exact Ql (⟨i.i+1,c16,hlt⟩) (by show n - (i.i+1)<n - i.i;omega) ⟨rfl,rfl,rfl,rfl,trivial⟩ subl_r (fun F h=>⟨h.1.1,h.2⟩)
 ·
  have hge:i.i=n:=by have:=dec_f hc;omega
  refine Qy ?_
  repeat (first | refine QZ ?_ | refine QV (by rfl) ?_)
  refine Qa<|QC<|J_sr<|JS_mv rfl<|JS_as rfl<|JS_nt<|QS ?_
  exact QR (i.c) rfl (.tmp rfl .nil) (rfl) (fun F ⟨⟨⟨⟨hGl,hP⟩,⟨h8,h8_⟩⟩,h10⟩,hC⟩=>by rw [hge] at hC;exact hC)
end
section
open Go.RowKit Ig
def DZ (c:Rat) (ws:List (List Tm)) (ks:List Int) (k:Nat):Nat→List Tm
 |0=>Yg c k
 |i+1=>JQ (Q8 (DZ c ws ks k i) (WH (el ws i) k (Qb ks i).toNat))
def WS (ws:List (List Tm)) (k:Nat) (l:List Tm):List Tm:=l.foldl (fun a t=>JQ (a++DZ t.1 ws t.2 k t.2.length)) []
theorem Ij {ts:List XT} {ws:List (List Tm)} {k i:Nat} (h:i<ts.length):WS ws k (JG (ts.take (i+1)))=JQ (WS ws k (JG (ts.take i))++DZ (el ts i).t.1 ws (el ts i).t.2 k (el ts i).t.2.length):=by
 rw [Xi h];unfold WS;rw [List.foldl_append];rfl
structure CM (p q:List Tm):Prop where
 pp:∀ t∈p,PW t.2
 pq:∀ t∈q,PW t.2
 lp:p.length≤400000000
 lq:q.length≤400000000
 zs:ZV (p++q)≤40000000
theorem ON {w:World} {F:Gs} {p q:Wl} (hF:Fits F w) (hGl:JC F) (hP:Jm F p.1 p.2 (JG p.2)) (hQ:Jm F q.1 q.2 (JG q.2)) (h:CM (JG p.2) (JG q.2)) :
  QT Tryz.prog 139 [p.1.v,q.1.v] w F (fun(c:Wl)=>c.1.v) (fun c F=>Jm F c.1 c.2 (JQ (JG p.2++JG q.2))) :=
 qJ hF hGl hP hQ ⟨fun t ht=>h.pp _ (List.mem_map_of_mem ht),fun t ht=>h.pq _ (List.mem_map_of_mem ht)⟩ ⟨by have:=h.lp;rwa [Yy] at this,by have:=h.lq;rwa [Yy] at this⟩ h.zs
structure cB (n:Nat) where
 i:Nat
 c:Wl
 le:i≤n
structure cC (n:Nat) where
 j:Nat
 d:Wl
 le:j≤n
def PK (ws:List Wl):List (List Tm):=ws.map fun e=>JG e.2
theorem UZ {ws:List Wl} {j:Nat} (h:j<ws.length):el (PK ws) j=JG (el ws j).2:=by rw [ZA (by simpa [PK] using h),ZA h];simp [PK]
theorem U5 {w:World} {F:Gs} {q q2:Option Addr} {n cap n2 cap2 k:Nat} {ts:List XT} {ws:List Wl} (hF:Fits F w) (hGl:JC F) (hP:Jm F ⟨q,n,cap⟩ ts (JG ts)) (hW:Q4 F q2 n2 1 (ws.map fun e=>e.1.v)) (hWs:UC F ws) (hw:ws.length=n2) (hk:k≤1000) (hl:ts.length≤1000000)
  (hp:∀ t∈ts,t.t.2.length≤n2∧PW t.t.2) (h1:∀ t∈ts,∀ j,j<t.t.2.length→B0 (DZ t.t.1 (PK ws) t.t.2 k j) (WH (el (PK ws) j) k (Qb t.t.2 j).toNat) k∧∀ i,i<(Qb t.t.2 j).toNat→B0 (WH (el (PK ws) j) k i) (el (PK ws) j) k)
  (h2:∀ i,i<ts.length→CM (WS (PK ws) k (JG (ts.take i))) (DZ (el ts i).t.1 (PK ws) (el ts i).t.2 k (el ts i).t.2.length)) :
  QT Tryz.prog 144 [.slice q n cap,.slice q2 n2 cap2,.int .i64 (k:Nat)] w F (fun(c:Wl)=>c.1.v) (fun c F=>Jm F c.1 c.2 (WS (PK ws) k (JG ts))):=by
 have hln:ts.length=n:=hP.2.2.2.2
 refine QT.intro (G:=fun F=>JC F∧Jm F ⟨q,n,cap⟩ ts (JG ts)∧Q4 F q2 n2 1 (ws.map fun e=>e.1.v)∧UC F ws) Tryz.func144 rfl (by rfl) rfl rfl hF (fun F' hF'=>⟨hGl.le hF',hP.le hF',hW.le hF',hWs.le hF'⟩)<|J_sr<|JS_as rfl<|JS_nt<|J_sr<|JS_as rfl<|JS_nt<|QG<|J_sr<|JS_mv rfl<|QA (Qi rfl J1)<|JS_mv rfl<|JS_nt<|QX<|Jw (ι:=cB ts.length) [(1,_),(2,_),(13,_),(14,_)] (fun i=>[(7,i.c.1.v),(15,.int .i64 ((i.i:Nat):Int))]) (fun i=>[]) (fun i F=>Jm F i.c.1 i.c.2 (WS (PK ws) k (JG (ts.take i.i)))) (fun i=>ts.length - i.i) (⟨0,(⟨none,0,0⟩,[]),Nat.zero_le _⟩) ⟨rfl,rfl,rfl,rfl,trivial⟩ ⟨rfl,rfl,trivial⟩ subl_r (fun F _=>⟨Q4.nil F none 5,(fun _ h=>by cases h),rfl,Nat.le_refl _,rfl⟩) (fun i=>?_)
 simp only [List.cons_append,List.nil_append]
 have hi:=i.le
 refine J_sr<|QA (QU rfl rfl rfl)<|JS_nt<|QG ?_
 refine QP rfl (fun hc=>?_) (fun hc=>?_)
 ·
  have hlt:i.i<ts.length:=by have:=dec_t hc;omega
  have htm:=JN hlt
  have hp1:=hp _ htm
  have hpl:=hp1.2.2
  have hrl:=(hP.2.1 _ htm).2.2.1
  refine QO<|QC<|QG<|QX<|J_sr<|QA (JK (n:=n) (i.i) (fun F h9=>(h9.1.2.1).1) rfl rfl J1 JZ (by omega))<|QA (Xq (n:=n) (vs:=[.int .i64 (el ts (i.i)).x.n.s,.slice (el ts (i.i)).x.n.q (el ts (i.i)).x.n.n (el ts (i.i)).x.n.cap,.int .i64 (el ts (i.i)).x.d.s,.slice (el ts (i.i)).x.d.q (el ts (i.i)).x.d.n (el ts (i.i)).x.d.cap,.slice (el ts (i.i)).r.q (el ts (i.i)).r.n (el ts (i.i)).r.cap]) ((i.i)*5) (fun F h9=>(h9.1.2.1).1) (by omega) rfl JZ rfl (fun j v hv=>J2 (f:=YY) (l:=ts) YE (by omega) hv))<|Qf Zb (fun b9=>QQ (vs:=[_,_,_,_,_]) rfl rfl rfl JZ rfl .here (.here (.here (.here (.here (.here .nil))))) ⟨rfl,rfl,rfl,rfl,rfl,trivial⟩<|JS_nt<|J_sr<|QA (QI rfl Zm Qe)<|QA (QL (vs:=[_,_,_,_]) rfl Qe .here (.here (.here (.here (.here .nil)))) rfl)<|JS_mv rfl<|QH rfl (fun w F hF h9=>TH (a:=(el ts i.i).t.1) (x:=(el ts i.i).x) hF (h9.1.2.1.2.1 _ htm).1 hk) (fun c22=>JS_as rfl<|JS_nt<|QG<|J_sr<|QA (QI rfl X1 Qv) ?_))
  refine QA (Qo rfl Qv .here (.skip (.skip (.skip (.skip (.here .nil))))))<|QA (Qi rfl Qd)<|JS_mv rfl<|JS_nt<|QX<|Jw (ι:=cC (el ts i.i).t.2.length) [(1,_),(2,_),(7,_),(13,_),(14,_),(15,_),(24,_),(25,_)] (fun i2=>[(10,i2.d.1.v),(26,.int .i64 ((i2.j:Nat):Int))]) (fun i2=>[]) (fun i2 F=>Jm F i2.d.1 i2.d.2 (DZ (el ts i.i).t.1 (PK ws) (el ts i.i).t.2 k i2.j)) (fun i2=>(el ts i.i).t.2.length - i2.j) (⟨0,c22,Nat.zero_le _⟩) ⟨rfl,rfl,rfl,rfl,rfl,rfl,rfl,rfl,trivial⟩ ⟨rfl,rfl,trivial⟩ (List.nil_sublist _) (fun _ h=>h.2) (fun i2=>?_)
  simp only [List.cons_append,List.nil_append]
  have hj:=i2.le
  refine J_sr<|QA (QU rfl rfl rfl)<|JS_nt<|QG ?_
  refine QP rfl (fun hc=>?_) (fun hc=>?_)
  ·
   have hlt2:i2.j<(el ts i.i).t.2.length:=by have:=dec_t hc;omega
   have hlw:i2.j<ws.length:=by omega
   have hem:=JN hlw
   have hk1:=hp1.2.el hlt2
   refine QO<|QC<|QG<|QX<|J_sr<|JS_mv rfl<|QA (JK (n:=(el ts i.i).r.n) (i2.j) (fun F h9=>((h9.1.1.1.2.1.2.1 _ htm).2).1) rfl rfl Qd Qs (by omega))<|QA (JM (n:=(el ts i.i).r.n) ((i2.j)*1) (fun F h9=>((h9.1.1.1.2.1.2.1 _ htm).2).1) (by omega) rfl Qs (JJ (o:=(el ts i.i).t.2) (by omega)))<|JS_as rfl<|JS_as rfl<|JS_nt<|QB<|JS_mv rfl<|JS_mv rfl<|JS_mv rfl<|QA (JK (n:=n2) (i2.j) (fun F h9=>h9.1.1.1.2.2.1) rfl rfl DH V8 (by omega))<|QA (JM (n:=n2) ((i2.j)*1) (fun F h9=>h9.1.1.1.2.2.1) (by omega) rfl V8 (DR (f:=fun e:Wl=>e.1.v) (l:=ws) (by omega)))<|JS_mv rfl<|JS_mv rfl ?_
   rw [show(.int .i64 (Qb (el ts i.i).t.2 i2.j):Value) = .int .i64 (((Qb (el ts i.i).t.2 i2.j).toNat:Nat):Int) by rw [Int.toNat_of_nonneg hk1.1]]
   refine QH rfl (fun w F hF h9=>zI (p:=el ws i2.j) hF h9.1.1.1.1 (h9.1.1.1.2.2.2 _ hem) hk (by omega) (by rw [← UZ hlw];exact(h1 _ htm _ hlt2).2)) (fun c38=>JH _ (fun w F hF ⟨⟨⟨⟨⟨hGl,hP,hW,hWs⟩,hC⟩,h22⟩,hD⟩,h38⟩=>And.intro hD.2.2.1 h38.2.2.1) (fun hde=>?_))
   obtain ⟨hde,h38e⟩:=hde
   refine QH rfl (fun w F hF h9=>TF (N:=k) hF h9.1.1.1.1.1 (p:=i2.d) (q:=c38) (by rw [hde];exact h9.1.2) (by rw [h38e];exact h9.2) hk (by rw [hde,h38e,← UZ hlw];exact(h1 _ htm _ hlt2).1)) (fun c39=>?_)
   rw [hde,h38e,← UZ hlw]
   refine JS_as rfl<|QE<|Qk<|QC<|QB<|QA (Qp rfl rfl (by omega))<|JS_mv rfl<|QE ?_
   exact Ql (⟨i2.j+1,c39,hlt2⟩) (by show(el ts i.i).t.2.length - (i2.j+1)<(el ts i.i).t.2.length - i2.j;omega) ⟨rfl,rfl,rfl,rfl,rfl,rfl,rfl,rfl,rfl,rfl,trivial⟩ (List.nil_sublist _) (fun F h=>⟨h.1.1.1,h.2⟩)
  ·
   have hge2:i2.j=(el ts i.i).t.2.length:=by have:=dec_f hc;omega
   refine Qy ?_
   repeat (first | refine QZ ?_ | refine QV (by rfl) ?_)
   refine Qa<|QC<|QB<|JS_mv rfl<|JS_mv rfl<|JH _ (fun w F hF ⟨⟨⟨⟨hGl,hP,hW,hWs⟩,hC⟩,h22⟩,hD⟩=>And.intro hC.2.2.1 hD.2.2.1) (fun hde=>?_)
   obtain ⟨hce,hde⟩:=hde
   rw [hge2] at hde
   refine QH rfl (fun w F hF ⟨⟨⟨⟨hGl,hP,hW,hWs⟩,hC⟩,h22⟩,hD⟩=>ON hF hGl (p:=i.c) (q:=i2.d) (by rw [hce];exact hC) (by rw [hde];rw [hge2] at hD;exact hD) (by rw [hce,hde];exact h2 _ hlt)) (fun c43=>?_)
   rw [hce,hde]
   refine JS_as rfl<|QE<|Qk<|QC<|QB<|QA (Qp rfl rfl (by omega))<|JS_mv rfl<|QE ?_
   exact Ql (⟨i.i+1,c43,hlt⟩) (by show ts.length - (i.i+1)<ts.length - i.i;omega) ⟨rfl,rfl,rfl,rfl,rfl,rfl,trivial⟩ (List.nil_sublist _) (fun F h=>⟨h.1.1.1.1,by rw [Ij hlt];exact h.2⟩)
 ·
  have hge:i.i=ts.length:=by have:=dec_f hc;omega
  refine Qy ?_
  repeat (first | refine QZ ?_ | refine QV (by rfl) ?_)
  refine Qa<|QC<|J_sr<|JS_mv rfl<|JS_as rfl<|JS_nt<|QS ?_
  exact QR (i.c) rfl (.tmp rfl .nil) (rfl) (fun F ⟨⟨hGl,hP,hW,hWs⟩,hC⟩=>by rw [hge,List.take_length] at hC;exact hC)
end
section
open Go.RowKit Ig
theorem qN {w:World} {F:Gs} {q:Option Addr} {n c:Nat} {l:List Int} (hF:Fits F w) (hR:Q4 F q n 1 (l.map Qx)) (hn:n≤1000000000):Qc Tryz.prog 142 [.slice q n c] w F (.int .i64 (Qm l)):=by
 have hln:l.length=n:=by have:=hR.1;simpa using this
 have em:l=l.map (fun x=>x):=by simp
 refine QT.intro (G:=fun F=>Q4 F q n 1 (l.map Qx)) Tryz.func142 rfl (by rfl) rfl rfl hF (fun F' hF'=>hR.le hF')<|J_sr<|JS_as rfl<|JS_nt<|J_sr<|JS_as rfl<|JS_nt<|QG<|J_sr<|JS_mv rfl<|QA (Qi rfl Zj)<|JS_mv rfl<|JS_nt<|QX<|ZT (ι:=Y3 l (fun x=>x)) [(3,_),(6,_),(7,_)] (fun i=>[(8,.int .i64 ((i.i:Nat):Int))]) (fun i=>l.length - i.i) (Y3.start _ _) ⟨rfl,rfl,rfl,trivial⟩ ⟨rfl,trivial⟩ (fun i=>?_)
 simp only [List.cons_append,List.nil_append]
 have hi:=i.le
 refine J_sr<|QA (QU rfl rfl rfl)<|JS_nt<|QG ?_
 refine QP rfl (fun hc=>?_) (fun hc=>?_)
 ·
  have hlt:i.i<l.length:=by have:=dec_t hc;omega
  refine QO<|QC<|QG<|QX<|J_sr<|QA (JK (n:=n) (i.i) (fun F hR=>hR) rfl rfl Zj Y1 (by omega))<|QA (JM (n:=n) ((i.i)*1) (fun F hR=>hR) (by omega) rfl Y1 (JJ (o:=l) (by omega)))<|JS_as rfl<|JS_nt<|J_sr<|JS_mv rfl<|JS_mv rfl<|QA (QU rfl rfl rfl)<|QE<|QC ?_
  refine QP rfl (fun hc=>?_) (fun hc=>?_)
  ·
   refine J_sr<|JS_mv rfl<|JS_as rfl<|JS_nt<|QS ?_
   repeat (first | refine JE ?_ | refine Q3 ?_)
   exact F_r1 rfl rfl (congrArg (Value.int .i64) (by rw [Xx hlt,Et l];exact i.hit hlt (by rw [← Xx hlt];simpa using hc))) (fun F hR=>trivial)
  ·
   refine QO<|Qk<|QC<|QB<|QA (Qp rfl rfl (by omega))<|JS_mv rfl<|QE ?_
   exact Ql (i.next hlt (by rw [← Xx hlt];simpa using hc)) (by show l.length - (i.i+1)<l.length - i.i;omega) ⟨rfl,rfl,rfl,rfl,trivial⟩ subl_r (fun F h=>h)
 ·
  have hge:l.length≤i.i:=by have:=dec_f hc;omega
  refine Qy ?_
  repeat (first | refine QZ ?_ | refine QV (by rfl) ?_)
  refine Qa<|QC<|J_sr<|JS_mv rfl<|JS_as rfl<|JS_nt<|QS ?_
  exact F_r1 rfl rfl (congrArg (Value.int .i64) (by rw [Et l];exact i.stop hge)) (fun F hR=>trivial)
structure Fa (ws:List (List Tm)) (k:Nat) (l:List Tm):Prop where
 mul:∀ t∈l,∀ j,j<t.2.length→B0 (DZ t.1 ws t.2 k j) (WH (el ws j) k (Qb t.2 j).toNat) k∧∀ i,i<(Qb t.2 j).toNat→B0 (WH (el ws j) k i) (el ws j) k
 add:∀ i,i<l.length→CM (WS ws k (l.take i)) (DZ (el l i).1 ws (el l i).2 k (el l i).2.length)
 pw:∀ t∈WS ws k l,PW t.2
 sz:∀ t∈WS ws k l,JO t.1≤100000000
 len:(WS ws k l).length≤1000000
def Aj (ls:List Yw):List (List Tm):=ls.map fun e=>JA (Jp e.2)
structure cA (ls:List Yw) where
 i:Nat
 v:Value
 ob:List (Nat×Obj)
 ws:List Wl
 le:i≤ls.length
 hr:Qz 157 1 v i (ws.map fun e=>e.1.v) ob
 hx:PK ws=Aj (ls.take i)
theorem cA.len {ls:List Yw} (s:cA ls):s.ws.length=s.i:=by
 have:=congrArg List.length s.hx
 have h:=s.le
 simp only [PK,Aj,List.length_map,List.length_take] at this;omega
theorem jN {ls:List Yw} {ws:List Wl} {i:Nat} {c:Wl} (h:PK ws=Aj (ls.take i)) (hi:i<ls.length) (e:JG c.2=JA (Jp (el ls i).2)):PK (ws++[c])=Aj (ls.take (i+1)):=by
 have e1:PK (ws++[c])=PK ws++[JG c.2]:=by unfold PK;rw [List.map_append];rfl
 rw [e1,h,e,X4 hi];unfold Aj;rw [List.map_append];rfl
theorem xv {ts:List XT} {i:Nat} (h:i<ts.length):(el ts i).t=el (JG ts) i:=by rw [ZA h,ZA (by simpa [JG] using h)];simp [JG]
theorem LZ (ts:List XT) (i:Nat):JG (ts.take i)=(JG ts).take i:=by simp [JG,List.map_take]
theorem Ih {w:World} {F:Gs} {a:Yw} {q:Option Addr} {n cap:Nat} {ls:List Yw} {v u:Int} (hF:Fits F w) (hGl:JC F) (hP:Z9 F [a]) (hta:VB a) (hR:Q4 F q n 1 (ls.map fun e=>e.1.v)) (hA:Z9 F ls) (hn:ls.length=n) (ht:∀ e∈ls,VB e)
  (hv:0≤v∧v≤24) (hu:0≤u∧u≤24) (ha:XF (Jp a.2) v=0) (hnv:(n:Int)=v+1) (hall:Vq ls u=0) (ho:Fa (Aj ls) (u+1).toNat (JA (Jp a.2))) :
  QT Tryz.prog 44 [a.1.v,.int .i64 v,.slice q n cap,.int .i64 u] w F (fun(c:Yw)=>.tuple #[c.1.v,.int .i64 (WZ (WS (Aj ls) (u+1).toNat (JA (Jp a.2))))]) (fun c F=>ZR F c.1 c.2 (Gr (WS (Aj ls) (u+1).toNat (JA (Jp a.2))))):=by
 have haa:a∈[a]:=by simp
 have hcv:ZM v=0:=(Yd v).2 hv
 have hcu:ZM u=0:=(Yd u).2 hu
 have oa:=KE ha
 obtain ⟨_,ows⟩:=Du hall
 have la:(JA (Jp a.2)).length≤64:=by unfold JA;rw [List.length_map];exact oa.len
 have hpa:∀ t∈JA (Jp a.2),PW t.2:=oa.pw hv.2
 have hwd:∀ t∈JA (Jp a.2),t.2.length=n:=fun t ht=>by have:=oa.wide t ht;omega
 dsimp only [Sr.v]
 refine QT.intro (G:=fun F=>JC F∧Z9 F [a]∧Q4 F q n 1 (ls.map fun e=>e.1.v)∧Z9 F ls) Tryz.func44 rfl (by rfl) rfl rfl hF (fun F' hF'=>⟨hGl.le hF',hP.le hF',hR.le hF',hA.le hF'⟩)<|J_sr<|JS_as rfl<|JS_as rfl<|JS_nt<|QG<|J_sr<|JS_mv rfl<|QH rfl (fun w F hF h9=>Gh hF ) (fun _=>JS_mv rfl<|QH rfl (fun w F hF h9=>Gh hF ) (fun _=>QW rfl (Q7 Zj) Y1 H7 rfl rfl (fun b20=>QH rfl (fun w F hF h9=>Z5 hF (Q4.of (cs:=List.map Qx [ZM v,ZM u]) h9.2 rfl) (by decide)) (fun _=>JS_as rfl<|JS_nt<|J_sr<|JS_mv rfl<|QA (QU rfl rfl rfl)<|QE<|QC ?_))))
 refine QP rfl (fun hc=>?_) (fun hc=>?_)
 ·exact absurd hc (by rw [hcv,hcu];decide)
 ·
  refine QO<|QC<|QG<|J_sr<|JS_mv rfl<|JS_mv rfl<|QH rfl (fun w F hF h9=>Bj hF h9.1.1.1.1.1 ((h9.1.1.1.1.2.1 a haa).1) ((h9.1.1.1.1.2.1 a haa).2) (hta.1) (hta.2.1) (hta.2.2) (hv)) (fun _=>JS_mv rfl<|QA (Qi rfl DA)<|JS_mv rfl<|QA (Qp rfl rfl (by omega))<|QA (QU rfl rfl rfl)<|QH rfl (fun w F hF h9=>Zn hF ) (fun _=>QW rfl (Q7 Zj) Y1 H7 rfl rfl (fun b34=>QH rfl (fun w F hF h9=>qN hF (Q4.of (cs:=List.map Qx [XF (Jp a.2) v,if((n:Int) != v+1)=true then 2 else 0]) h9.2 rfl) (by decide)) (fun _=>JS_as rfl<|JS_nt<|J_sr<|JS_mv rfl<|QA (QU rfl rfl rfl)<|QE<|QC ?_))))
  refine QP rfl (fun hc=>?_) (fun hc=>?_)
  ·exact absurd hc (by rw [ha,if_neg (by simp [hnv])];decide)
  ·
   refine QO<|QC<|QG<|J_sr<|JS_mv rfl<|JS_mv rfl<|QH rfl (fun w F hF ⟨⟨⟨⟨⟨⟨⟨⟨⟨hGl,hP,hR,hA⟩,_⟩,_⟩,hs20⟩,_⟩,_⟩,_⟩,hs34⟩,_⟩=>GI hF hGl (hR) (hA) (hn) (by omega) (ht)) (fun _=>JS_as rfl<|JS_nt<|J_sr<|JS_mv rfl<|QA (QU rfl rfl rfl)<|QE<|QC ?_)
   refine QP rfl (fun hc=>?_) (fun hc=>?_)
   ·exact absurd hc (by rw [hall];decide)
   ·
    refine QO<|QC<|J_sr<|JS_as rfl<|JS_nt<|QG<|J_sr<|JS_mv rfl<|QA (Qi rfl DA)<|JS_mv rfl<|JS_nt<|QX<|Jw (ι:=cA ls) [(0,_),(3,_),(45,_),(46,_)] (fun i=>[(13,i.v),(47,.int .i64 ((i.i:Nat):Int))]) (fun i=>i.ob) (fun i F=>UC F i.ws) (fun i=>ls.length - i.i) (⟨0,_,[],[],Nat.zero_le _,.nil,rfl⟩) ⟨rfl,rfl,rfl,rfl,trivial⟩ ⟨rfl,rfl,trivial⟩ subl_r (fun _ _ _ h=>by cases h) (fun i=>?_)
    simp only [List.cons_append,List.nil_append]
    have hi:=i.le
    refine J_sr<|QA (QU rfl rfl rfl)<|JS_nt<|QG ?_
    refine QP rfl (fun hc=>?_) (fun hc=>?_)
    ·
     have hlt:i.i<ls.length:=by have:=dec_t hc;omega
     have hem:=JN hlt
     refine QO<|QC<|QG<|QX<|J_sr<|QA (JK (n:=n) (i.i) (fun F h9=>h9.1.1.1.1.1.1.1.1.1.1.2.2.1) rfl rfl DA Gn (by omega))<|QA (JM (n:=n) ((i.i)*1) (fun F h9=>h9.1.1.1.1.1.1.1.1.1.1.2.2.1) (by omega) rfl Gn (DR (f:=fun e:Yw=>e.1.v) (l:=ls) (by omega)))<|JS_as rfl<|JS_nt<|QB<|JS_mv rfl<|JS_mv rfl<|QH rfl (fun w F hF ⟨⟨⟨⟨⟨⟨⟨⟨⟨⟨⟨hGl,hP,hR,hA⟩,_⟩,_⟩,hs20⟩,_⟩,_⟩,_⟩,hs34⟩,_⟩,_⟩,hWs⟩=>KV hF hGl (a:=el ls i.i) (hA _ hem).1 (hA _ hem).2 (ht _ hem) (ows _ hem) hu) (fun c53=>JH _ (fun w F hF h=>h.2.2.2.1) (fun e53=>QW rfl (Q7 DH) V8 LP rfl rfl (fun b54=>?_)))
     rw [← List.append_nil i.ob]
     refine Di (n:=i.i) (k:=1) (sz:=1) (news:=[c53.1.v]) rfl rfl DH V8 LP rfl yJ i.hr (Src.row (off:=0) (fun F h9=>h9.2) (fun j v hv=>by rw [Nat.zero_add];rw [List.getElem?_toArray];exact hv) rfl) (by omega) (by omega) (fun v hv=>by rw [List.mem_singleton.1 hv];rfl) (fun v55 ob55 hr55=>?_)
     refine JS_as rfl<|QE<|Qk<|QC<|QB<|QA (Qp rfl rfl (by omega))<|JS_mv rfl<|QE ?_
     exact Ql (⟨i.i+1,v55,ob55,i.ws++[c53],hlt,by rw [List.map_append];exact hr55,jN i.hx hlt e53⟩) (by show ls.length - (i.i+1)<ls.length - i.i;omega) ⟨rfl,rfl,rfl,rfl,rfl,rfl,trivial⟩ (List.sublist_append_left _ _) (fun F ⟨⟨⟨hB,hWs⟩,h53⟩,_⟩=>⟨hB,fun e he=>by
   rcases List.mem_append.1 he with he | he
   ·exact hWs e he
   ·rw [List.mem_singleton.1 he,e53];exact h53⟩)
    ·
     have hge:i.i=ls.length:=by have:=dec_f hc;omega
     refine Qy ?_
     repeat (first | refine QZ ?_ | refine QV (by rfl) ?_)
     refine Qa<|QC<|QG<|QB ?_
     have hxl:=i.len
     have hwa:PK i.ws=Aj ls:=by rw [i.hx,hge,List.take_length]
     obtain ⟨⟨rq,rn,rc⟩,hv2,hrn,hrc,hfix⟩:=Qz.fix (w0:=w) (F0:=F) (bs1:=[]) (G:=_) i.hr
     dsimp only at hrn hrc hfix
     subst hrn
     refine B4 hfix ?_
     rw [hv2]
     dsimp only [Sr.v]
     refine JS_mv rfl<|QH rfl (fun w F hF h9=>KV hF h9.1.1.1.1.1.1.1.1.1.1.1.1 (a:=a) (h9.1.1.1.1.1.1.1.1.1.1.1.2.1 a haa).1 (h9.1.1.1.1.1.1.1.1.1.1.1.2.1 a haa).2 hta oa hv) (fun c58=>JH _ (fun w F hF h=>And.intro h.2.2.2.1 h.2.len) (fun h58p=>?_))
     obtain ⟨e58,l58⟩:=h58p
     refine JS_mv rfl<|JS_mv rfl<|QA (Qp rfl rfl (by omega)) ?_
     rw [show(.int .i64 (u+1):Value) = .int .i64 ((((u+1).toNat:Nat)):Int) by rw [Int.toNat_of_nonneg (by omega)]]
     refine QH rfl (fun w F hF ⟨⟨⟨⟨⟨⟨⟨⟨⟨⟨⟨⟨⟨hGl,hP,hR,hA⟩,_⟩,_⟩,hs20⟩,_⟩,_⟩,_⟩,hs34⟩,_⟩,_⟩,hWs⟩,hrow⟩,h58⟩=>U5 (k:=(u+1).toNat) (ts:=c58.2) (ws:=i.ws) hF hGl (by rw [e58];exact h58) hrow hWs hxl (by omega) (by omega)
      (Jz (Q:=fun t=>t.2.length≤i.i∧PW t.2) e58 fun t ht=>⟨Nat.le_of_eq ((hwd t ht).trans (hge.trans hn).symm),hpa t ht⟩)
      (by rw [hwa];exact Jz (Q:=fun t=>∀ j,j<t.2.length→B0 (DZ t.1 (Aj ls) t.2 (u+1).toNat j) (WH (el (Aj ls) j) (u+1).toNat (Qb t.2 j).toNat) (u+1).toNat∧∀ i,i<(Qb t.2 j).toNat→B0 (WH (el (Aj ls) j) (u+1).toNat i) (el (Aj ls) j) (u+1).toNat) e58 ho.mul)
      (fun j hj=>by rw [hwa,xv hj,LZ,e58];exact ho.add j (by omega))) (fun c62=>?_)
     refine JH _ (fun w F hF h=>And.intro h.2.2.2.1 h.2.len) (fun h62p=>?_)
     obtain ⟨e62,l62⟩:=h62p
     rw [hwa,e58] at e62 l62
     refine QH rfl (fun w F hF ⟨⟨⟨⟨⟨⟨⟨⟨⟨⟨⟨⟨⟨⟨hGl,hP,hR,hA⟩,_⟩,_⟩,hs20⟩,_⟩,_⟩,_⟩,hs34⟩,_⟩,_⟩,hWs⟩,hrow⟩,h58⟩,h62⟩=>WY hF (q:=c62.1.q) (n:=c62.1.n) (cap:=c62.1.cap) (ts:=c62.2) (by rw [e62];rw [hwa,e58] at h62;exact h62) hGl (Jz e62 ho.pw) (Jz (Q:=fun t=>JO t.1≤100000000) e62 ho.sz) (by rw [l62];exact ho.len)) (fun c63=>?_)
     rw [e62]
     refine QA (QK rfl rfl)<|QA (QK rfl rfl)<|JS_as rfl<|JS_as rfl<|JS_nt<|QS ?_
     exact JX (c63) rfl (.tmp rfl (.tmp rfl .nil)) (rfl) (fun F h9=>h9.2)
end
section
open Go.RowKit Ig
structure Open (F:Fence):Prop where
 fn:∀ f,F.fn f
 depth:F.depth=none
 calls:∀ {n:Nat} {P:Program} {f:FuncId} {args:Array Value} {w:World} {R:Ending→World→Prop},Calls P f args w R→CallsIn F n P f args w R
 rows:∀ {n:Nat} {P:Program} {row:String} {args:Array Value} {w:World} {R:Value→World→Prop},Rows P row args w R→RowsIn F n P row args w R
theorem DN:Open Fence.wide where
 fn:=fun _=>trivial
 depth:=rfl
 calls:=fun h=>callsIn_wide.2 h
 rows:=fun h c cs _=>by
  obtain ⟨v,w',h1,h2⟩:=h c cs
  exact⟨v,w',h1,stepsIn_wide.2 h2⟩
theorem Xz (l:Nat):Open (Fence.wide.inRound l) where
 fn:=fun _=>trivial
 depth:=rfl
 calls:=fun h=>(callsIn_wide.2 h:CallsIn Fence.wide _ _ _ _ _ _)
 rows:=fun h=>DN.rows h
section
variable {F:Fence} {P:Program}
theorem Open.op (hF:Open F) {o:Oper} (hnd:∀ c,o.op≠.defer c) {a:Act} {w:World} {K K':Act→World→Prop} {Q1 Q:Exit→Act→World→Prop} (hp:∀ c a w,Q1 (.panic c) a w→Q (.panic c) a w) (hl:∀ a w,Q1 .outgrown a w→Q .outgrown a w) (hK:∀ a w,K a w→K' a w) (h:o.wp P a w K Q1):o.wpIn F 0 P a w K' Q:=by
 unfold Oper.wp at h
 unfold Oper.wpIn
 refine⟨fun f _=>hF.fn f,?_⟩
 rw [Oper.semAt_plain F a.eval o hnd]
 generalize (execOp a.eval o).run P w=r at *
 have hd:F.depth.isSome=true→1≤0:=fun e=>by rw [hF.depth] at e;cases e
 cases r with
 |ok x w' =>
  cases x<;>simp only [Oper.upon,Oper.uponIn] at h ⊢ <;>
   first
    |exact hK _ _ h
    |exact⟨hd,hF.calls (h.mono fun e w'' he=>by
      cases e with
      |returned u=>exact hK _ _ he
      |panicked c=>exact hp _ _ _ he
      |outgrown=>obtain ⟨a,w,h⟩:=he;exact⟨a,w,hl _ _ h⟩)⟩
    |exact⟨hd,hF.rows (h.mono fun _ _ he=>hK _ _ he)⟩
 |halt x w'=>cases x<;>simp only [Oper.upon,Oper.uponIn] at h ⊢<;>exact hp _ _ _ h
def WK (l:List Oper):Bool:=l.all fun o=>match o.op with | .defer _=>false | _=>true
theorem NA {o:Oper} (h:(match o.op with | .defer _=>false | _=>true)=true):∀ c,o.op≠.defer c:=fun c e=>by rw [e] at h;cases h
theorem Open.list (hF:Open F) {ops:Array Oper} {Q:Exit→Act→World→Prop} (hQ:¬ LetsOut Q):∀ (l:List Oper) (a:Act) (w:World),WK l=true→wpList P ops Q l a w→wpListIn F 0 P ops Q l a w
 |[],_,_,_,h=>h
 |o::rest,a,w,hd,h=>by
  simp only [WK,List.all_cons,Bool.and_eq_true] at hd
  unfold wpList at h
  unfold wpListIn
  split
  ·rename_i hw
   rw [if_pos hw] at h
   rcases h with h | ⟨_,h⟩
   ·exact hF.op (NA hd.1) (fun _ _ _ h=>h) (fun _ _ h=>h) (fun a w h=>hF.list hQ rest a w hd.2 h) h
   ·exact absurd h hQ
  ·rename_i hw
   rw [if_neg hw] at h
   exact⟨fun f _=>hF.fn f,hF.list hQ rest _ _ hd.2 h⟩
end
section
variable [Dr] [df:Df] {F:Fence} {P:Program} {Q:Exit→Act→World→Prop} {N:Nat} {m:Sl} {E:Env}
def JI (F:Fence) (P:Program) (c:Code) (Q:Exit→Act→World→Prop) (N:Nat) (m:Sl) (E:Env):Prop:=∀ a w,Jr N m a→St E w→c.wpIn F 0 P Q a w
theorem GP {x y:Code} (h:JI F P x (Exit.then (y.wpIn F 0 P Q) Q) N m E):JI F P (.seq x y) Q N m E:=fun a w ha hw=>wpIn_seq (h a w ha hw)
theorem UG {id:Nat} {c:Code} (h:JI F P c (Exit.inBlock id Q) N m E):JI F P (.block id c) Q N m E:=fun a w ha hw=>wpIn_block (h a w ha hw)
theorem jd (h:Fin Q .normal N m E):JI F P .skip Q N m E:=fun a w ha hw=>wpIn_skip (h a w ha hw)
theorem FW {c:Operand} {x y:Code} {t:Bool} (hc:ev m c=some (.bool t)) (ht:t=true→JI F P x Q N m E) (hf:t=false→JI F P y Q N m E):JI F P (.cond c x y) Q N m E :=
 fun a w ha hw=>wpIn_cond_split (ha.ev hc) (fun h=>ht h a w ha hw) (fun h=>hf h a w ha hw)
theorem ZQ (hF:Open F) {id:Nat} {l:List Oper} (hQ:¬ LetsOut Q) (hd:WK l=true) (h:JS P l.toArray Q l N m E):JI F P (.region id l.toArray false) Q N m E :=
 fun a w ha hw=>wpIn_region_lit (hF.list hQ l a w hd (h a w ha hw))
theorem Vi {y:Code} (h:JI F P y Q N m E):Fin (Exit.then (y.wpIn F 0 P Q) Q) .normal N m E:=h
section
variable {w0:World} {F0:Gs} {bs:List (Nat×Obj)} {G:Gs→Prop} {l:Nat} {r:Loop} {f:Obj→List (Nat×Obj)}
theorem St.put {w:World} (h:St ⟨w0,F0,bs,G⟩ w) {b:Nat} {o:Obj} (o':Obj) (ho:Own bs b o f) (hn:∀ c fr,o'≠.cells c 248 fr):St ⟨w0,F0,f o',G⟩ (w.putObj b o'):=by
 obtain ⟨pre,post,e1,e2⟩:=ho.split
 subst e1
 rw [e2]
 exact h.write pre ⟨rfl,rfl,rfl,rfl,rfl⟩ hn
theorem FZ {body:Code} {Qr:Exit→Act→World→Prop} (ho:Own bs l (.loop r) f) (hr:r.state = .ready) (k:JI F P body Qr N m ⟨w0,F0,f (.loop { r with state:=.busy }),G⟩) :
  Fin (Exit.then (fun a₁ w₁=>∃ w₂,(Instr.beginRound l).run P w₁ = .ok () w₂∧body.wpIn F 0 P Qr a₁ w₂) (fun _ _ _=>False)) .normal N m ⟨w0,F0,bs,G⟩ :=
 fun a w ha hw=>⟨_,run_beginRound (hw.own ho) hr,k a _ ha (hw.put _ ho (fun c fr e=>by cases e))⟩
theorem FY {R:Ending→World→Prop} (ho:Own bs l (.loop r) f) (k:∀ w,St ⟨w0,F0,f (.loop { r with state:=.ready,pending:=none }),G⟩ w→R (.returned (.bool true)) w):Fin (roundPost P l R) .normal N m ⟨w0,F0,bs,G⟩ :=
 fun a w ha hw=>⟨_,_,run_endRound none (hw.own ho),k _ (hw.put _ ho (fun c fr e=>by cases e))⟩
end
end
section
variable [Dr] {P:Program} {w0:World} {F0:Gs} {bs:List (Nat×Obj)} {G:Gs→Prop} {l:Nat} {r:Loop} {f:Obj→List (Nat×Obj)}
def Ra (r:Loop) (vs:Array Value):Act:={ tmps:=(r.params.zip vs).foldl (fun tmps (t,a)=>tmps.setIfInBounds t a) r.tmps,defers:=[] }
theorem Mc {W:World} {vs:Array Value} {R:Ending→World→Prop} {N:Nat} {m:Sl} (hst:St ⟨w0,F0,bs,G⟩ W) (ho:Own bs l (.loop r) f) (hsz:vs.size=r.params.size) (hsl:Jr N m (Ra r vs))
  (h:JI (Fence.wide.inRound l) P r.assign (Exit.then (fun a₁ w₁=>∃ w₂,(Instr.beginRound l).run P w₁ = .ok () w₂∧r.body.wpIn (Fence.wide.inRound l) 0 P (roundPost P l R) a₁ w₂) (fun _ _ _=>False)) N m ⟨w0,F0,bs,G⟩) :
  YieldAt Fence.wide 0 P l vs W R :=
 ⟨_,_,_,_,run_yield (hst.own ho) hsz,roundIn_of_wpIn trivial (h _ W hsl hst)⟩
end
section
variable [Dr] [df:Df] {P:Program} {Q:Exit→Act→World→Prop} {N:Nat} {m:Sl} {E E0:Env} {ops:Array Oper} {l:List Oper} {w0:World} {F0:Gs} {bs:List (Nat×Obj)} {G:Gs→Prop}
def pY (P:Program) (ops:Array Oper) (Q:Exit→Act→World→Prop) (l:List Oper) (N:Nat) (m:Sl) (E:Env):Prop:=∀ a w,Jr N m a→St E w→wpListIn Fence.wide 0 P ops Q l a w
theorem yZ (hQ:¬ LetsOut Q) (hd:WK l=true) (h:JS P ops Q l N m E):pY P ops Q l N m E:=fun a w ha hw=>DN.list hQ l a w hd (h a w ha hw)
theorem I0 {x:Operand} {d r:Nat} {args:Array Operand} {tys:Array TypeId} {vs:List Value} {ty:TypeId} {pos:String} {aft:Array Edge} {ι:Type} {E':ι→Env} (hx:ev m x=some (.func (.yield r) #[] #[])) (hv:Ec m args.toList=some vs)
  (hy:∀ w,St E w→YieldAt Fence.wide 0 P r vs.toArray w fun e w'=>e = .returned (.bool true)∧∃ s,St (E' s) w')
  (k:∀ s,pY P ops Q l N ((d,.bool true)::m) (E' s)) (hd:J4 N (some d)=true:=by rfl):pY P ops Q (⟨some d,.call ⟨.value x,args,tys⟩,ty,pos,aft,none⟩::l) N m E:=by
 intro a w ha hw
 refine wpListIn_plain rfl fun K hK=>?_
 obtain ⟨fn,tmps,assign,body,hr,hR⟩:=hy w hw
 refine⟨fun f _=>trivial,?_⟩
 have e2:args.map a.eval=vs.toArray:=by rw [← ha.Ec hv];apply Array.ext';simp
 have hrun:(execOp a.eval ⟨some d,.call ⟨.value x,args,tys⟩,ty,pos,aft,none⟩).run P w = .ok (.round r fn tmps assign body) w:=by
  simp only [execOp,resolve,ha.ev hx,Deferred.ofValue,Sem.run_bind,Sem.run_pure,Result.andThen_ok,invoke,e2]
  simpa using hr
 rw [Oper.semAt_plain Fence.wide a.eval _ (fun c e=>by cases e),hrun]
 refine⟨fun e=>(by cases e),hR.mono ?_⟩
 rintro e w' ⟨rfl,s,hs⟩
 exact hK _ _ (k s _ w' (ha.put hd (.bool true)) hs)
theorem CJ {ops':Array Oper} {l':List Oper} (h:pY P ops' Q l' N m E):JD P ops (Xs (fun a w=>wpListIn Fence.wide 0 P ops' Q l' a w)) E0 [] N m E:=fun _=>h
section
variable {md:Region.Mode}
theorem Uc {l:List Oper} {n i:Nat} {K0 K:Act→World→Prop} {a:Act} {w:World} (hi:i<n) (hgd:Bf l.toArray n=true) (hnd:WK l=true)
  (h:wpOp P (l.take n).toArray (Xs K0) i K a w):wpOpIn Fence.wide 0 P l.toArray Q i K a w:=by
 unfold wpOp at h
 unfold wpOpIn
 rw [GD hi] at h
 cases ho:l.toArray[i]? with
 |none=>simp only [ho] at h ⊢;exact h
 |some o =>
  simp only [ho] at h ⊢
  have hw:Region.wanted o (yielded (l.take n).toArray a.tmps)=Region.wanted o (yielded l.toArray a.tmps):=by
   have h1:=List.all_eq_true.1 hgd i (List.mem_range.2 hi)
   rw [ho] at h1
   unfold Region.wanted
   cases hg:o.guard with
   |none=>rfl
   |some gw =>
    obtain ⟨g,want⟩:=gw
    simp only [hg] at h1
    simp only [H9 (l:=l) (by simpa using h1)]
  rw [hw] at h
  have hmem:o∈l:=by
   have:l[i]?=some o:=by simpa using ho
   exact List.mem_of_getElem? this
  split
  ·rename_i hw2
   rw [if_pos hw2] at h
   rcases h with h | ⟨_,h2⟩
   ·exact DN.op (NA (List.all_eq_true.1 hnd o hmem)) (fun _ _ _ h=>h.elim) (fun _ _ h=>h.elim) (fun _ _ h=>h) h
   ·obtain ⟨_,_,h2⟩:=h2;exact h2.elim
  ·rename_i hw2
   rw [if_neg hw2] at h;exact⟨fun _ _=>trivial,h⟩
theorem BA {ops:Array Oper}:∀ (f:Nat) (listed:Array Bool) (a:Act) (w:World),wpAnyIn Fence.wide 0 P md ops Q f listed a w→wpAnyIn Fence.wide 0 P md ops Q (f+1) listed a w
 |0,listed,a,w,h=>⟨fun _=>h.2,fun i hi=>(by rw [h.1] at hi;cases hi)⟩
 |f+1,listed,a,w,h=>⟨h.1,fun i hi=>wpOpIn_mono (fun a' w' h'=>BA f _ a' w' h') (h.2 i hi)⟩
theorem N4 {ops:Array Oper} (f:Nat) (listed:Array Bool) (a:Act) (w:World) (g:Nat) (h:wpAnyIn Fence.wide 0 P md ops Q g listed a w):wpAnyIn Fence.wide 0 P md ops Q (f+g) listed a w:=by
 induction f with
 |zero=>rw [Nat.zero_add];exact h
 |succ f ih=>rw [show f+1+g=(f+g)+1 by omega];exact BA _ _ _ _ ih
theorem Ww:∀ (l:List Oper) (k:Nat) (listed:Array Bool) (a:Act) (w:World),(∀ j,l[j]?=ops[k+j]?) →
  Region.seqB md ops l.length k listed=true→wpListIn Fence.wide 0 P ops Q l a w→wpAnyIn Fence.wide 0 P md ops Q l.length listed a w
 |[],_,_,_,_,_,hB,h=>⟨by simpa [Region.seqB] using hB,h⟩
 |o::l,k,listed,a,w,hl,hB,h=>by
  have h0:ops[k]?=some o:=by simpa using (hl 0).symm
  simp only [List.length_cons,Region.seqB,Bool.and_eq_true,decide_eq_true_eq] at hB
  refine⟨fun h1=>(by rw [hB.1] at h1;cases h1),fun i hi=>?_⟩
  rw [hB.1] at hi
  have hik:i=k:=by simpa using hi
  subst hik
  have hw:wpOpIn Fence.wide 0 P ops Q i (wpListIn Fence.wide 0 P ops Q l) a w:=by unfold wpOpIn;simp only [h0];exact h
  exact wpOpIn_mono (fun a' w' h'=>Ww l (i+1) _ a' w' (fun j=>by have:=hl (j+1);simpa [Nat.add_assoc,Nat.add_comm 1 j] using this) hB.2 h') hw
theorem N3 {l:List Oper} {n:Nat} (hn:n<l.length) (hs:Region.sinkB md l.toArray n=true) (hc:Region.chainB md l.toArray n=true) (ho:KJ md l.toArray n=true)
  (hgd:Bf l.toArray n=true) (hseq:Region.seqB md l.toArray (l.length - n) n (Zr n l.length)=true) (hnd:WK l=true) :
  ∀ (f:Nat) (lh la:Array Bool) (a:Act) (w:World),HeadInv md l.toArray n la→lh.size=n→(∀ i,i<n→la.getD i true=lh.getD i true) →
   wpAny P md (l.take n).toArray (Xs (fun a w=>wpListIn Fence.wide 0 P l.toArray Q (l.drop n) a w)) f lh a w→wpAnyIn Fence.wide 0 P md l.toArray Q (f+(l.length - n)) la a w:=by
 have fin:∀ (f:Nat) (lh la:Array Bool) (a:Act) (w:World),HeadInv md l.toArray n la→lh.size=n→(∀ i,i<n→la.getD i true=lh.getD i true) →
   Region.ready md (l.take n).toArray lh=[]→wpListIn Fence.wide 0 P l.toArray Q (l.drop n) a w→wpAnyIn Fence.wide 0 P md l.toArray Q (f+(l.length - n)) la a w:=by
  intro f lh la a w inv hsz hrel hr h
  have hall:∀ i,i<n→lh.getD i true=true:=by
   intro i hi
   cases hv:lh.getD i true with
   |true=>rfl
   |false=>exact absurd hr (WB hn hs hc ho inv hsz hrel hi hv).2
  have hla:la=Zr n l.length:=by
   refine EA (by simpa using inv.size) (fun i hi hi2=>?_) (fun i hi hi2=>?_)
   ·have h1:=(hrel i hi).trans (hall i hi)
    have h2:i<la.size:=by rw [inv.size];simpa using hi2
    simp [h2] at h1 ⊢;exact h1
   ·exact getD_both (inv.tail i hi (by simpa using hi2))
  subst hla
  refine N4 f _ _ _ _ ?_
  have:=Ww (P:=P) (Q:=Q) (md:=md) (ops:=l.toArray) (l.drop n) n (Zr n l.length) a w (fun j=>by simp [List.getElem?_drop]) (by simpa using hseq) h
  simpa using this
 intro f
 induction f with
 |zero=>intro lh la a w inv hsz hrel h;exact fin 0 lh la a w inv hsz hrel h.1 h.2
 |succ f ih =>
  intro lh la a w inv hsz hrel h
  by_cases hr:Region.ready md (l.take n).toArray lh=[]
  ·exact fin (f+1) lh la a w inv hsz hrel hr (h.1 hr)
  ·obtain ⟨k,hk⟩:=List.exists_mem_of_ne_nil _ hr
   have hk2:=(mem_ready.1 hk)
   have hkn:k<n:=by
    obtain ⟨_,o,ho',_⟩:=hk2
    have:=(Array.getElem?_eq_some_iff.1 ho').1
    simp at this;omega
   have hiff:=(WB hn hs hc ho inv hsz hrel hkn hk2.1).1
   rw [show f+1+(l.length - n)=(f+(l.length - n))+1 by omega]
   refine⟨fun h0=>absurd ((hiff k).2 hk) (by rw [h0];simp),fun i hi=>?_⟩
   have hi':=(hiff i).1 hi
   have hin:i<n:=by
    obtain ⟨_,o,ho',_⟩:=mem_ready.1 hi'
    have:=(Array.getElem?_eq_some_iff.1 ho').1
    simp at this;omega
   have h2:=Uc (Q:=Q) hin hgd hnd (h.2 i hi')
   refine wpOpIn_mono (fun a' w' h3=>ih _ _ a' w' (inv.set hi hin) (by simpa using hsz) (fun j hj=>?_) h3) h2
   by_cases hij:i=j
   ·subst hij
    have h1:i<la.size:=by rw [inv.size];simp;omega
    have h2:i<lh.size:=by omega
    simp [h1,h2]
   ·rw [getD_set_ne true hij,getD_set_ne true hij];exact hrel j hj
theorem SQ {id:Nat} {l:List Oper} {bs0:List (Nat×Obj)} (n:Nat) (hb0:bs0.Sublist bs) (hm:P.follows .mixedOrders=true) (hB:Hh l n=true) (hB2:lexB .any (l.take n)=true) (hnd:WK l=true)
  (h:JD P (l.take n).toArray (Xs (fun a w=>wpListIn Fence.wide 0 P l.toArray Q (l.drop n) a w)) ⟨w0,F0,bs0,G⟩ (l.take n) N m ⟨w0,F0,bs,G⟩):J P (.region id l.toArray true) Q N m ⟨w0,F0,bs,G⟩:=fun a w ha hw=>by
 have h1:=h (fun _ h=>h.imp hb0 fun _ h=>h) a _ ha hw.drew
 have h2:=Vl (P:=P) (S:=St ⟨w0,F0,bs0,G⟩) hB2 (fun c a w h=>h) (hw.drew.imp hb0 fun _ h=>h) h1
 simp only [Hh,Bool.and_eq_true,decide_eq_true_eq] at hB
 obtain ⟨⟨⟨⟨⟨hn,hs⟩,hc⟩,ho⟩,hg⟩,hseq⟩:=hB
 refine(wpIn_wide (n:=0)).1 (wpIn_region_any hm ?_)
 have inv0:HeadInv .any l.toArray n (Array.replicate l.toArray.size false) :=
  ⟨by simp,fun j oj _ hl=>(by rw [getD_replicate_false] at hl;cases hl),fun t _ ht=>getD_in (by simpa using ht) (getD_replicate_false _ _)⟩
 have e:(l.take n).length=n:=by simp;omega
 rw [e] at h2
 have:=N3 (P:=P) (md:=.any) (Q:=Q) hn hs hc ho hg hseq hnd n (Array.replicate n false) (Array.replicate l.toArray.size false) a { w with drawn:=w.drawn+1 } inv0 (by simp)
  (fun i hi=>by
   have h1:i<l.length:=(by omega)
   simp [hi,h1]) h2
 rw [show n+(l.length - n)=l.toArray.size by simp;omega] at this
 exact this
end
end
section
variable [Dr] {P:Program} {Q:Exit→Act→World→Prop} {N:Nat} {m:Sl} {w0:World} {F0:Gs} {bs:List (Nat×Obj)} {G:Gs→Prop}
@[reducible] def Hp (D:Nat):Df:=⟨[{ target:=.collected D,args:=#[] }]⟩
structure CH (N:Nat) (m:Sl) (ps:Array Tmp) (assign body:Code) (r:Loop):Prop where
 state:r.state = .ready
 cr:r.pending=none
 params:r.params=ps
 assign:r.assign=assign
 body:r.body=body
 vG:Jr (df:=VA) N m { tmps:=r.tmps,defers:=[] }
theorem UE {g:Operand} {ps:Array Tmp} {assign body:Code} {gf:Nat} {lb:Array Value} {ι:Type} (B:ι→List (Nat×Obj)) (R:ι→Gs→Prop) (Dn:ι→Prop) (hg:ev m g=some (.func (.func gf) #[] lb)) (he:Enters P gf)
  (hcall:∀ (L D:Nat) (r:Loop) (w:World),CH N m ps assign body r→St ⟨w0,F0,(L,.loop r)::(D,.deferred (some []))::bs,G⟩ w →
   Calls P gf (#[.func (.yield L) #[] #[]]++lb) w fun e w'=>(∃ v,e = .returned v)∧∃ s,Dn s∧St ⟨w0,F0,(L,.loop r)::(D,.deferred (some []))::B s,fun F=>G F∧R s F⟩ w')
  (k:∀ D s,Dn s→Fin (df:=Hp D) Q .normal N m ⟨w0,F0,(D,.deferred (some []))::B s,fun F=>G F∧R s F⟩):J (df:=VA) P (.rangeFunc g ps assign body) Q N m ⟨w0,F0,bs,G⟩:=fun a w ha hw=>by
 refine(wpIn_wide (n:=0)).1 (wpIn_rangeFunc fun fn _=>?_)
 obtain ⟨r,hr⟩:∃ r:Loop,r={ state:=.ready,pending:=none,fn,tmps:=a.tmps,params:=ps,assign,body,defers:=w.heap.size }:=⟨_,rfl⟩
 have hs1:St ⟨w0,F0,(w.heap.size+1,.loop r)::(w.heap.size,.deferred (some []))::bs,G⟩ ((w.alloc (.deferred (some []))).alloc (.loop r)):=by
  have h1:=hw.alloc (.deferred (some [])) (fun c fr e=>by cases e)
  have h2:=h1.alloc (.loop r) (fun c fr e=>by cases e)
  rwa [World.size_alloc] at h2
 have hd:a.defers=[]:=ha.df
 refine⟨w.heap.size+1,[{ target:=.collected w.heap.size,args:=#[] }],(w.alloc (.deferred (some []))).alloc (.loop r),{ target:=.fn (.func gf) lb,args:=#[.func (.yield (w.heap.size+1)) #[] #[]] },(w.alloc (.deferred (some []))).alloc (.loop r),gf,
  #[.func (.yield (w.heap.size+1)) #[] #[]]++lb,(w.alloc (.deferred (some []))).alloc (.loop r),?_,?_,fun _ _=>trivial,?_,fun e=>(by cases e),?_⟩
 ·rw [hr];exact run_enterLoop_outer _ _ _ _ _
 ·simp only [resolve,ha.ev hg]
  simp [go_sem]
 ·simpa [invoke,go_sem] using he _ _
 ·refine(callsIn_wide.2 (hcall _ _ r _ ⟨by rw [hr],by rw [hr],by rw [hr],by rw [hr],by rw [hr],⟨by rw [hr];exact ha.size,rfl,by rw [hr];exact ha.get⟩⟩ hs1)).mono ?_
  rintro e w' ⟨⟨v,rfl⟩,s,hdn,hs⟩
  have hl:w'.heap[w.heap.size+1]?=some (.loop r):=hs.own .here
  refine⟨none,w'.putObj (w.heap.size+1) (.loop { r with state:=.exhausted }),?_,k w.heap.size s hdn _ _ (Jr.mk (df:=Hp w.heap.size) (Jr.size (df:=VA) (a:=a) ha) ?_ (fun t v h=>Jr.get (df:=VA) (a:=a) ha t v h)) ?_⟩
  ·rw [run_endLoop hl (by rw [hr];intro e;cases e)]
   rw [hr]
  ·show _++a.defers=_
   rw [hd];rfl
  ·exact(hs.put (.loop { r with state:=.exhausted }) .here (fun c fr e=>by cases e)).imp (.cons _ subl_r) fun _ h=>h
theorem gr {c:Code} (h:∀ G':Gs→Prop,(∀ F,G' F→G F)→J (df:=VA) P c Q N m ⟨w0,F0,bs,G'⟩):J (df:=VA) P c Q N m ⟨w0,F0,bs,G⟩:=h G fun _ h=>h
theorem QT.zi {f:FuncId} {fn:Func} {c:Code} {args:List Value} {w:World} {F:Gs} {γ:Type} {val:γ→Value} {fact:γ→Gs→Prop} {G:Gs→Prop} (hf:P.funcs[f]?=some fn) (hb:fn.body=some c) (hn:(fn.name == "runtime.NumGoroutine")=false) (hN:fn.ntmps=N) (hl:Nat.ble args.length N=true)
  (hw:Fits F w) (hg:∀ F',Gs.le F F'→G F') (h:J (df:=VA) P c (bodyPostM Fence.wide 0 P fn (DC w F val fact)) N (Nh 0 args) ⟨w,F,[],G⟩):QT P f args w F val fact:=by
 refine⟨enters_of hf hn (by rw [hb];rfl),callsIn_wide.1 (callsIn_of_wp_marks hf hb trivial (wpIn_wide.2 (h _ w ⟨?_,rfl,fun t v ht=>?_⟩ (St.start hw hg))))⟩
 ·have:=Nat.le_of_ble_eq_true hl
  simp [hN];omega
 ·obtain ⟨_,h2⟩:=WL args 0 t v ht
  have hlt:t<args.length:=by rcases Nat.lt_or_ge t args.length with g | g;exact g;rw [Nat.sub_zero,List.getElem?_eq_none g] at h2;cases h2
  simp only [Nat.sub_zero] at h2
  rw [Array.getElem?_append,if_pos (by simpa using hlt)]
  simpa using h2
theorem CL {fn:Func} {R:Ending→World→Prop} {E:Env} (h:Fin (df:=VA) (bodyPost P fn R) .ret N m E):Fin (df:=VA) (bodyPostM Fence.wide 0 P fn R) .ret N m E:=fun a w ha hw=>by
 obtain ⟨h1,v,h2,h3⟩:=h a w ha hw
 show LeavesInM Fence.wide 0 P fn a.tmps R a.defers .returning w
 rw [h1]
 exact⟨v,h2,h3⟩
theorem ya {fn:Func} {R:Ending→World→Prop} {D:Nat} {f:Obj→List (Nat×Obj)} (ho:Own bs D (.deferred (some [])) f) (h:Fin (df:=VA) (bodyPost P fn R) .ret N m ⟨w0,F0,f (.deferred none),G⟩):Fin (df:=Hp D) (bodyPostM Fence.wide 0 P fn R) .ret N m ⟨w0,F0,bs,G⟩:=fun a w ha hw=>by
 have h1:=h { tmps:=a.tmps,defers:=[] } _ (Jr.mk (df:=VA) (Jr.size (df:=Hp D) (a:=a) ha) rfl (fun t v h=>Jr.get (df:=Hp D) (a:=a) ha t v h)) (hw.put (.deferred none) ho (fun c fr e=>by cases e))
 obtain ⟨_,v,h2,h3⟩:=h1
 show LeavesInM Fence.wide 0 P fn a.tmps R a.defers .returning w
 rw [show a.defers=[{ target:=.collected D,args:=#[] }] from Jr.df (df:=Hp D) ha]
 exact⟨fun e=>(by cases e),.inl ⟨D,_,rfl,run_takeDeferred (hw.own ho),v,h2,h3⟩⟩
end
end
section
open Go.RowKit Ig
abbrev jg (n:Nat):={ l:List Int // l.length=n }
def VP {n:Nat} (x:jg n):Value:=.agg (x.1.map Qx).toArray
theorem jV {a b:List Int} {n:Nat} (ha:a.length=n) (hb:b.length=n):((List.range n).all fun j=>Qb a j==Qb b j)=decide (a=b):=by
 rw [Bool.eq_iff_iff,decide_eq_true_iff,List.all_eq_true]
 constructor
 ·intro h
  apply List.ext_getElem (by omega)
  intro i h1 h2
  have:=h i (List.mem_range.2 (by omega))
  simpa [Qb,h1,h2] using this
 ·intro h j _;rw [h];simp
section
variable {P:Program} {e:TypeId}
theorem M5 (he:P.underlying e=some (.int .i64)) (w:World) {xs:List Int} {j:Nat} (h:j<xs.length):(part e (xs.map Qx).toArray j).run P w = .ok (Qx (Qb xs j)) w:=by
 have e1:(xs.map Qx).toArray[j]?=some (Qx (Qb xs j)):=by simp [h,Qb]
 simp [part,isAgg,run_underlying he,e1]
theorem eqItems_ints (he:P.underlying e=some (.int .i64)) (w:World) (d:Nat) {xs ys:List Int}:∀ (is:List Nat),(∀ j∈is,j<xs.length∧j<ys.length) →
  (Op.eqItems (d+1) e 1 (xs.map Qx).toArray (ys.map Qx).toArray is).run P w = .ok (is.all fun j=>Qb xs j==Qb ys j) w
 |[],_=>by simp [Op.eqItems]
 |j::is,h=>by
  have h1:=h j (by simp)
  simp only [Op.eqItems,Sem.run_bind,Nat.mul_one,M5 he w h1.1,M5 he w h1.2,Result.andThen_ok]
  rw [show Qx (Qb xs j) = .int .i64 (Qb xs j) from rfl,show Qx (Qb ys j) = .int .i64 (Qb ys j) from rfl,run_equalIn_int w d e .i64 .i64 _ _ he]
  simp only [Result.andThen_ok,List.all_cons]
  cases Qb xs j==Qb ys j
  ·simp
  ·simpa using eqItems_ints he w d is fun j hj=>h j (by simp [hj])
theorem equal_arr {kt:TypeId} {n:Nat} (hu:P.underlying kt=some (.array n e)) (he:P.underlying e=some (.int .i64)) (hc:P.cellsOf e=1) (w:World) (a b:jg n):(Op.equal kt (VP a) (VP b)).run P w = .ok (decide (a=b)) w:=by
 obtain ⟨i,hi⟩:=info_of_underlying he
 unfold VP
 show(Op.equalIn (9999+1) kt _ _).run P w=_
 rw [run_equalIn_array w 9999 _ _ hu hi,hc,eqItems_ints he w 9998 _ (fun j hj=>⟨by rw [a.2];exact List.mem_range.1 hj,by rw [b.2];exact List.mem_range.1 hj⟩),jV a.2 b.2]
 congr 1
 simp [Subtype.ext_iff]
theorem EC {kt:TypeId} {n:Nat} (hu:P.underlying kt=some (.array n e)) (he:P.underlying e=some (.int .i64)) (hc:P.cellsOf e=1) (w:World) (k:jg n):∀ (l:List (jg n×Value)) (m i:Nat),
  (Instr.findAsking kt (VP k) (XN VP l m) i).run P w = .ok (Zt l k i) w
 |[],_,_=>by simp [XN,Instr.findAsking,Zt]
 |x::l,m,i=>by
  simp only [XN,Instr.findAsking,Sem.run_bind,equal_arr hu he hc,Result.andThen_ok,Zt]
  by_cases h:k=x.1
  ·simp [h]
  ·simp [h,EC hu he hc w k l]
theorem Ik {kt:TypeId} {n:Nat} (hu:P.underlying kt=some (.array n e)) (he:P.underlying e=some (.int .i64)) (hc:P.cellsOf e=1) (em:Bool) (w:World) (k:jg n):(Instr.checkKey em 10000 kt (VP k)).run P w = .ok () w:=by
 obtain ⟨i,hi⟩:=info_of_underlying he
 rw [show 10000=9999+1 from rfl,Instr.checkKey]
 unfold VP
 simp only [Sem.run_bind,run_underlying hu,Result.andThen_ok]
 simp only [Std.Legacy.Range.forIn_eq_forIn_range',Std.Legacy.Range.size,Nat.sub_zero,Nat.add_one_sub_one,Nat.div_one]
 have hj:∀ j∈List.range' 0 n,j<k.1.length:=fun j hj=>by rw [k.2];simpa using hj
 generalize List.range' 0 n=is at hj
 induction is with
 |nil=>simp
 |cons j is ih =>
  have p2:(Instr.checkKey em 9999 e (Qx (Qb k.1 j))).run P w = .ok () w:=MapKept.run_checkKey he (by simp [MapKept.IsKey,Qx]) em 9998
  simp only [List.forIn_cons,Sem.run_bind,run_sizeOf w hi,Result.andThen_ok,hc,Nat.mul_one,M5 he w (hj j (by simp)),p2,Sem.run_pure]
  exact ih fun j hj'=>hj j (by simp [hj'])
theorem Lq {n:Nat} (k:jg n):Instr.sameBits 10000 (VP k) (VP k)=true:=by
 unfold VP
 rw [show 10000=9999+1 from rfl,Instr.sameBits]
 simp only [beq_self_eq_true,Bool.true_and,List.all_eq_true]
 intro x hx
 obtain ⟨l,hl⟩:=k
 simp only at hx
 have:∀ (l:List Int) (x:Value×Value),x∈(l.map Qx).zip (l.map Qx)→Instr.sameBits 9999 x.1 x.2=true:=by
  intro l
  induction l with
  |nil=>intro x hx;cases hx
  |cons a l ih =>
   intro x hx
   rw [List.map_cons,List.zip_cons_cons] at hx
   rcases List.mem_cons.1 hx with rfl | hx
   ·simp [Qx,Instr.sameBits]
   ·exact ih x hx
 exact this l x hx
theorem SP.arr {kt:TypeId} {n:Nat} (hu:P.underlying kt=some (.array n e)) (he:P.underlying e=some (.int .i64)) (hc:P.cellsOf e=1):SP P kt (VP (n:=n)) where
 kT:=fun em w k=>Ik hu he hc em w k
 find:=fun w k l=>by
  cases l with
  |nil=>simp [Instr.findKey,run_underlying hu,XN,Instr.findNow,Zt]
  |cons x l =>
   have:Instr.findNow (.array n e) (VP k) (XN VP (x::l) 0) 0=none:=by simp [XN,Instr.findNow,Instr.sameNow]
   simp only [Instr.findKey,Sem.run_bind,run_underlying hu,Result.andThen_ok,this]
   exact EC hu he hc w k (x::l) 0 0
 same:=Lq
theorem equal_txs {t:TypeId} {f1 f2:Field} (ht:P.underlying t=some (.struct (P.fieldsOf t))) (hp:P.stoodInHeld t=false) (hf:(P.fieldsOf t).toList=[f1,f2]) (h1:f1.name ≠ "_" ∧ f1.offset=0∧P.underlying f1.type=some .string) (h2:f2.name ≠ "_" ∧ f2.offset=1∧P.underlying f2.type=some .string) (w:World) (a b c d:List UInt8) :
  (Op.equal t (.agg #[tx a,tx b]) (.agg #[tx c,tx d])).run P w = .ok (decide (a=c)&&decide (b=d)) w:=by
 have hs:∀ (f:TypeId),P.underlying f=some .string→∀ x y:List UInt8,(Op.equalIn 9999 f (tx x) (tx y)).run P w = .ok (decide (x=y)) w:=fun f hf x y=>by
  rw [show(9999:Nat)=9998+1 from rfl,show tx x = .string ⟨x.toArray⟩ from rfl,show tx y = .string ⟨y.toArray⟩ from rfl,run_equalIn_string w 9998 f _ _ hf]
  congr 1
  rw [ByteArray.toList_eq,ByteArray.toList_eq,Bool.eq_iff_iff]
  simp
 show(Op.equalIn (9999+1) t _ _).run P w=_
 rw [run_equalIn_struct w 9999 t _ _ ht hp,hf]
 have p1:∀ x y:List UInt8,(part f1.type #[tx x,tx y] 0).run P w = .ok (tx x) w:=fun x y=>by simp [part,isAgg,run_underlying h1.2.2]
 have p2:∀ x y:List UInt8,(part f2.type #[tx x,tx y] 1).run P w = .ok (tx y) w:=fun x y=>by simp [part,isAgg,run_underlying h2.2.2]
 simp only [Op.eqFields,h1.1,h2.1,h1.2.1,h2.2.1,ne_eq,not_false_eq_true,if_true,Sem.run_bind,p1,p2,hs f1.type h1.2.2,hs f2.type h2.2.2,Result.andThen_ok]
 by_cases e1:a=c<;>by_cases e2:b=d<;>simp [e1,e2,p2,hs f2.type h2.2.2]
end
end
section
open Go.RowKit Ig
def y8 (P:Program) (T:TypeId):Option (Nat×TypeId):=match P.underlying T with | some (.array n e)=>some (n,e) | _=>none
theorem Cn {P:Program} {T e:TypeId} {n:Nat} (h:y8 P T=some (n,e)):P.underlying T=some (.array n e):=by
 unfold y8 at h
 split at h
 ·rename_i hu;cases h;exact hu
 ·cases h
section
variable [Dr] [df:Df] {P:Program} {N:Nat} {m:Sl} {S:World→Prop} {ty:TypeId}
theorem Pc {T e:TypeId} {x y:Operand} {b off n sz i:Nat} {g:Bool} (hx:ev m x=some (.pointer (some ⟨b,off,none⟩))) (hy:ev m y=some (.int .i64 (i:Int))) (hT:y8 P T=some (n,e)) (hs:YA P e=some (g,sz)) (hi:i<n):Qt P N m S (.indexAddr T x y) ty (.pointer (some ⟨b,off+i*sz,none⟩)):=fun a w _ _ _ _ ha _=>by
 simp [execOp,ha.ev hx,ha.ev hy,Instr.indexAt,asIntOf,Instr.sureAddr,run_underlying (Cn hT),Zo hs,hi,Ke]
theorem Uw {T e:TypeId} {x y:Operand} {b n sz h:Nat} {g:Bool} (hx:ev m x=some (.pointer (some ⟨b,0,none⟩))) (hy:ev m y=some (.int .i64 (h:Int))) (hT:y8 P T=some (n,e)) (hs:YA P e=some (g,sz)) (hh:h≤n):Qt P N m S (.slice T x none (some y) none) ty (.slice (some ⟨b,0,none⟩) h n):=fun a w _ _ _ _ ha _=>by
 simp [execOp,ha.ev hx,ha.ev hy,Instr.sliceAt,asIntOf,Instr.sureAddr,Instr.sliceBounds,Instr.sliceBound,run_underlying (Cn hT),Zo hs,hh,Ke]
end
theorem O9:y8 Tryz.prog 160=some (25,3):=by kernel_rfl
def YB (l:List Int):jg 25:=⟨(List.range 25).map (Qb l),by simp⟩
def HH (a b:List Int) (i:Nat):List Int:=(List.range 25).map fun j=>if j<i then Qb a j+Qb b j else 0
theorem IH {a b:List Int} {i:Nat} (h:i<25):(HH a b i).set i (Qb a i+Qb b i)=HH a b (i+1):=by
 unfold HH
 apply List.ext_getElem (by simp)
 intro j h1 h2
 simp only [List.length_set,List.length_map,List.length_range] at h1
 rw [List.getElem_set]
 simp only [List.getElem_map,List.getElem_range]
 split
 ·rename_i e;subst e;simp
 ·rename_i e
  by_cases g:j<i
  ·simp [g,show j<i+1 by omega]
  ·simp [g,show ¬ j<i+1 by omega]
theorem II {a b:List Int} {n:Nat} (ha:a.length=n) (hb:b.length=n):HH a b n=(YB (J0 a b)).1:=by
 unfold HH YB
 apply List.map_congr_left
 intro j hj
 split
 ·rename_i g
  simp [Qb,J0,ha,hb,g]
 ·rename_i g
  simp [Qb,J0,ha,hb,g]
theorem qB {a b:List Int} {i:Nat} (h:i<25):Ko ((HH a b i).map Qx) (0+i*1) [.int .i64 (Qb a i+Qb b i)] ((HH a b (i+1)).map Qx):=by
 have h1:=Ko.vH (l:=(HH a b i).map Qx) (n:=0+i*1) (.int .i64 (Qb a i+Qb b i)) (by simp [HH];omega)
 rw [← IH h,List.map_set]
 simpa [Qx] using h1
structure PoI {ι:Type} (pos:ι→Nat) (n m:Nat) where
 i:Nat
 s:ι
 le:i≤n
 hp:pos s=i*m
structure PoJ {ι:Type} (pos:ι→Nat) (n m i:Nat) where
 j:Nat
 s:ι
 le:j≤m
 hp:pos s=i*m+j
structure PoK (n:Nat) where
 k:Nat
 le:k≤n
theorem TB {ι:Type} {w0:World} {F0:Gs} {B:ι→List (Nat×Obj)} {H:ι→Gs→Prop} {pos:ι→Nat} {p q:Wl} {b1 b2 L n:Nat}
  (hH:∀ s F,H s F→F b1=some (#[p.1.v],157)∧F b2=some (#[q.1.v],157)∧Jm F p.1 p.2 (JG p.2)∧Jm F q.1 q.2 (JG q.2)) (hPn:p.2.length=p.1.n∧q.2.length=q.1.n)
  (hw:(∀ t∈p.2,t.t.2.length=n∧t.r.n=n∧PW t.t.2)∧∀ t∈q.2,t.t.2.length=n∧t.r.n=n∧PW t.t.2) (hn:n≤25) (hl:p.2.length≤1000000∧q.2.length≤1000000) (hz:(∀ t∈p.2,JO t.t.1≤20000000)∧∀ t∈q.2,JO t.t.1≤20000000)
  (hround:∀ (G:Gs→Prop) (C:List (Nat×Obj)) (s:ι) (i j:Nat) (x:Fr) (W:World),i<p.2.length→j<q.2.length→pos s=i*q.2.length+j →
   St ⟨w0,F0,B s++C,fun F=>(G F∧H s F)∧JV F x ((el p.2 i).t.1*(el q.2 j).t.1)⟩ W→YieldAt Fence.wide 0 Tryz.prog L #[VP (YB (J0 (el p.2 i).t.2 (el q.2 j).t.2)),x.v] W fun e W'=>e = .returned (.bool true)∧∃ s',pos s'=pos s+1∧St ⟨w0,F0,B s'++C,fun F=>G F∧H s' F⟩ W')
  (s0:ι) (h0:pos s0=0) :
  J9 Tryz.prog 209 [.func (.yield L) #[] #[],.pointer (some ⟨b1,0,none⟩),.pointer (some ⟨b2,0,none⟩)] ⟨w0,F0,B s0,H s0⟩ (fun(_:{ s:ι // pos s=p.2.length*q.2.length })=>.tuple #[]) (fun s=>⟨w0,F0,B s.1,H s.1⟩):=by
 have hpn:p.2.length=p.1.n:=hPn.1
 have hqn:q.2.length=q.1.n:=hPn.2
 refine J9.intro Tryz.func209 rfl (by rfl) rfl rfl<|J_sr<|QA (Mz (c:=#[p.1.v]) (T':=157) rfl V8 (fun F hs0=>(hH _ _ hs0).1) rfl)<|QA (Qi rfl J1)<|JS_mv rfl<|JS_nt<|QX<|Jw (ι:=PoI pos p.2.length q.2.length) [(0,_),(2,_),(10,_),(11,_)] (fun i=>[(12,.int .i64 ((i.i:Nat):Int))]) (fun i=>B i.s) (fun i F=>H i.s F) (fun i=>p.2.length - i.i) (⟨0,s0,Nat.zero_le _,by rw [h0,Nat.zero_mul]⟩) ⟨rfl,rfl,rfl,rfl,trivial⟩ ⟨rfl,trivial⟩ subl_r (fun _ h=>h) (fun i=>?_)
 simp only [List.cons_append,List.nil_append]
 have hi:=i.le
 refine J_sr<|QA (QU rfl rfl rfl)<|JS_nt<|QG ?_
 refine QP rfl (fun hc=>?_) (fun hc=>?_)
 ·
  have hlt:i.i<p.2.length:=by have:=dec_t hc;omega
  have hta:=JN hlt
  obtain ⟨hna,hra,hpa⟩:=hw.1 _ hta
  have hza:=hz.1 _ hta
  refine QO<|QC<|QG<|QX<|J_sr<|QA (JK (n:=p.1.n) (i.i) (fun F h9=>(hH _ _ h9.1).2.2.1.1) rfl rfl J1 JZ (by omega))<|QA (Xq (n:=p.1.n) (vs:=[.int .i64 (el p.2 (i.i)).x.n.s,.slice (el p.2 (i.i)).x.n.q (el p.2 (i.i)).x.n.n (el p.2 (i.i)).x.n.cap,.int .i64 (el p.2 (i.i)).x.d.s,.slice (el p.2 (i.i)).x.d.q (el p.2 (i.i)).x.d.n (el p.2 (i.i)).x.d.cap,.slice (el p.2 (i.i)).r.q (el p.2 (i.i)).r.n (el p.2 (i.i)).r.cap]) ((i.i)*5) (fun F h9=>(hH _ _ h9.1).2.2.1.1) (by omega) rfl JZ rfl (fun j v hv=>J2 (f:=YY) (l:=p.2) YE (by omega) hv))<|Qf Zb (fun b5=>QQ (vs:=[_,_,_,_,_]) rfl rfl rfl JZ rfl .here (.here (.here (.here (.here (.here .nil))))) ⟨rfl,rfl,rfl,rfl,rfl,trivial⟩<|JS_nt<|J_sr<|QA (Mz (c:=#[q.1.v]) (T':=157) rfl V8 (fun F h9=>(hH _ _ h9.1).2.1) rfl)<|QA (Qi rfl J1)<|JS_mv rfl<|JS_nt<|QX<|Jw (ι:=PoJ pos p.2.length q.2.length i.i) [(0,_),(2,_),(5,_),(10,_),(11,_),(12,_),(16,_),(17,_)] (fun i2=>[(18,.int .i64 ((i2.j:Nat):Int))]) (fun i2=>(b5,.cells (YY (el p.2 i.i)).toArray 165 (0,0))::B i2.s) (fun i2 F=>H i2.s F) (fun i2=>q.2.length - i2.j) (⟨0,i.s,Nat.zero_le _,by rw [i.hp,Nat.add_zero]⟩) ⟨rfl,rfl,rfl,rfl,rfl,rfl,rfl,rfl,trivial⟩ ⟨rfl,trivial⟩ subl_r (fun _ h=>h.2) (fun i2=>?_))
  simp only [List.cons_append,List.nil_append]
  have hj:=i2.le
  refine J_sr<|QA (QU rfl rfl rfl)<|JS_nt<|QG ?_
  refine QP rfl (fun hc=>?_) (fun hc=>?_)
  ·
   have hlt2:i2.j<q.2.length:=by have:=dec_t hc;omega
   have htb:=JN hlt2
   obtain ⟨hnb,hrb,hpb⟩:=hw.2 _ htb
   have hzb:=hz.2 _ htb
   refine QO<|QC<|QG<|QX<|J_sr<|QA (JK (n:=q.1.n) (i2.j) (fun F h9=>(hH _ _ h9.1.1).2.2.2.1) rfl rfl J1 JZ (by omega))<|QA (Xq (n:=q.1.n) (vs:=[.int .i64 (el q.2 (i2.j)).x.n.s,.slice (el q.2 (i2.j)).x.n.q (el q.2 (i2.j)).x.n.n (el q.2 (i2.j)).x.n.cap,.int .i64 (el q.2 (i2.j)).x.d.s,.slice (el q.2 (i2.j)).x.d.q (el q.2 (i2.j)).x.d.n (el q.2 (i2.j)).x.d.cap,.slice (el q.2 (i2.j)).r.q (el q.2 (i2.j)).r.n (el q.2 (i2.j)).r.cap]) ((i2.j)*5) (fun F h9=>(hH _ _ h9.1.1).2.2.2.1) (by omega) rfl JZ rfl (fun j v hv=>J2 (f:=YY) (l:=q.2) YE (by omega) hv))<|Qf Zb (fun b7=>QQ (vs:=[_,_,_,_,_]) rfl rfl rfl JZ rfl .here (.here (.here (.here (.here (.here .nil))))) ⟨rfl,rfl,rfl,rfl,rfl,trivial⟩<|JS_nt<|J_sr<|Qf Ai (fun b8=>JS_nt<|QG<|J_sr<|QA (QI rfl X1 Qv)<|QA (Qo rfl Qv (.there (.there .here)) (.skip (.skip (.skip (.skip (.here .nil))))))<|QA (Qi rfl Qd)<|JS_mv rfl<|QE ?_))
   refine QC<|QX<|Jw (ι:=PoK n) [(0,_),(2,_),(5,_),(7,_),(8,_),(10,_),(11,_),(12,_),(16,_),(17,_),(18,_),(24,_)] (fun i3=>[(25,.int .i64 ((i3.k:Nat):Int))]) (fun i3=>(b8,.cells ((HH (el p.2 i.i).t.2 (el q.2 i2.j).t.2 i3.k).map Qx).toArray 160 (0,0))::(b7,.cells (YY (el q.2 i2.j)).toArray 165 (0,0))::(b5,.cells (YY (el p.2 i.i)).toArray 165 (0,0))::B i2.s) (fun i3 F=>True) (fun i3=>n - i3.k) (⟨0,Nat.zero_le _⟩) ⟨rfl,rfl,rfl,rfl,rfl,rfl,rfl,rfl,rfl,rfl,rfl,rfl,trivial⟩ ⟨rfl,trivial⟩ subl_r (fun _ _=>trivial) (fun i3=>?_)
   simp only [List.cons_append,List.nil_append]
   have hk:=i3.le
   refine J_sr<|QA (QU rfl rfl rfl)<|JS_nt<|QG ?_
   refine QP rfl (fun hc=>?_) (fun hc=>?_)
   ·
    have hlt3:i3.k<n:=by have:=dec_t hc;omega
    have hka:=hpa.el (show i3.k<(el p.2 i.i).t.2.length by omega)
    have hkb:=hpb.el (show i3.k<(el q.2 i2.j).t.2.length by omega)
    refine QO<|QC<|QG<|QX<|J_sr<|JS_mv rfl<|JS_as rfl<|JS_nt<|Xo 13 subl_r mixed (by kernel_rfl) (by kernel_rfl) ?_
    simp only [List.take_succ_cons,List.take_zero,List.drop_succ_cons,List.drop_zero]
    refine QM (QD rfl)<|QM (QI rfl X1 Qv)<|QM (Qo rfl Qv (.there (.there .here)) (.skip (.skip (.skip (.skip (.here .nil))))))<|QM (QD rfl)<|QM (JK (n:=(el p.2 i.i).r.n) (i3.k) (fun F h9=>(((hH _ _ h9.1.1.1).2.2.1.2.1 _ hta).2).1) rfl rfl Qd Qs (by omega))<|QM (JM (n:=(el p.2 i.i).r.n) ((i3.k)*1) (fun F h9=>(((hH _ _ h9.1.1.1).2.2.1.2.1 _ hta).2).1) (by omega) rfl Qs (JJ (o:=(el p.2 i.i).t.2) (by omega)))<|QM (QI rfl X1 Qv)<|QM (Qo rfl Qv (.there .here) (.skip (.skip (.skip (.skip (.here .nil))))))<|QM (QD rfl)<|QM (JK (n:=(el q.2 i2.j).r.n) (i3.k) (fun F h9=>(((hH _ _ h9.1.1.1).2.2.2.2.1 _ htb).2).1) rfl rfl Qd Qs (by omega))<|QM (JM (n:=(el q.2 i2.j).r.n) ((i3.k)*1) (fun F h9=>(((hH _ _ h9.1.1.1).2.2.2.2.1 _ htb).2).1) (by omega) rfl Qs (JJ (o:=(el q.2 i2.j).t.2) (by omega)))<|QM (Qp rfl rfl (by omega))<|QM (Pc (i:=i3.k) rfl rfl O9 Qs (by omega))<|K6<|QQ (vs:=[_]) rfl rfl rfl Qs rfl .here (qB (by omega)) ⟨rfl,trivial⟩<|QE<|Qk<|QC<|QB<|QA (Qp rfl rfl (by omega))<|JS_mv rfl<|QE ?_
    exact Ql (⟨i3.k+1,hlt3⟩) (by show n - (i3.k+1)<n - i3.k;omega) ⟨rfl,rfl,rfl,rfl,rfl,rfl,rfl,rfl,rfl,rfl,rfl,rfl,rfl,trivial⟩ subl_r (fun F h=>⟨h.1,trivial⟩)
   ·
    have hge3:i3.k=n:=by have:=dec_f hc;omega
    refine Qy ?_
    repeat (first | refine QZ ?_ | refine QV (by rfl) ?_)
    refine Qa<|QC<|QG ?_
    rw [hge3,II hna hnb]
    refine SQ 7 subl_r mixed (by kernel_rfl) (by kernel_rfl) rfl ?_
    simp only [List.take_succ_cons,List.take_zero,List.drop_succ_cons,List.drop_zero]
    refine QM (QD rfl)<|QM (QL (vs:=(YB (J0 (el p.2 i.i).t.2 (el q.2 i2.j).t.2)).1.map Qx) rfl Wy .here (Nu.all _) (by simp [YB]))<|QM (QI rfl Zm Qe)<|QM (QL (vs:=[_,_,_,_]) rfl Qe (.there (.there .here)) (.here (.here (.here (.here .nil)))) rfl)<|QM (QI rfl Zm Qe)<|QM (QL (vs:=[_,_,_,_]) rfl Qe (.there .here) (.here (.here (.here (.here .nil)))) rfl)<|Qg rfl (fun w F hF h9=>KK hF ((hH _ _ h9.1.1.1).2.2.1.2.1 _ hta).1 ((hH _ _ h9.1.1.1).2.2.2.2.1 _ htb).1 (by omega) (by omega)) (fun x48=>CJ ?_)
    refine I0 (E':=fun s':{ s:ι // pos s=pos i2.s+1 }=>⟨w0,F0,(b8,.cells ((YB (J0 (el p.2 i.i).t.2 (el q.2 i2.j).t.2)).1.map Qx).toArray 160 (0,0))::(b7,.cells (YY (el q.2 i2.j)).toArray 165 (0,0))::(b5,.cells (YY (el p.2 i.i)).toArray 165 (0,0))::B s'.1,fun F=>(H s0 F∧H i.s F)∧H s'.1 F⟩) rfl rfl (fun W hW=>?_) (fun s49=>?_)
    ·obtain ⟨fn,tmps,assign,body,e1,e2⟩:=hround (fun F=>H s0 F∧H i.s F) [(b8,.cells ((YB (J0 (el p.2 i.i).t.2 (el q.2 i2.j).t.2)).1.map Qx).toArray 160 (0,0)),(b7,.cells (YY (el q.2 i2.j)).toArray 165 (0,0)),(b5,.cells (YY (el p.2 i.i)).toArray 165 (0,0))] i2.s i.i i2.j x48 W hlt hlt2 i2.hp ((hW.perm (List.perm_append_comm (l₁:=[_,_,_]))).Bb fun F h=>⟨h.1.1,h.2⟩)
     exact⟨fn,tmps,assign,body,e1,e2.mono fun e w' ⟨h2,s',h3,h4⟩=>⟨h2,⟨s',h3⟩,h4.perm (List.perm_append_comm (l₂:=[_,_,_]))⟩⟩
    refine yZ (fun⟨a,w,h⟩=>by obtain ⟨c,e,_⟩:=h;cases e) rfl<|QA (Z0 rfl)<|QE<|QC ?_
    refine QP rfl (fun hc=>?_) (fun hc=>?_)
    ·exact absurd hc (by decide)
    ·
     refine QO<|Qk<|QC<|QB<|QA (Qp rfl rfl (by omega))<|JS_mv rfl<|QE ?_
     exact Ql (⟨i2.j+1,s49.1,hlt2,by rw [s49.2,i2.hp];omega⟩) (by show q.2.length - (i2.j+1)<q.2.length - i2.j;omega) ⟨rfl,rfl,rfl,rfl,rfl,rfl,rfl,rfl,rfl,trivial⟩ (.cons _ (.cons _ subl_r)) (fun F h=>h)
  ·
   have hge2:i2.j=q.2.length:=by have:=dec_f hc;omega
   refine Qy ?_
   repeat (first | refine QZ ?_ | refine QV (by rfl) ?_)
   refine Qa<|Qk<|QC<|QB<|QA (Qp rfl rfl (by omega))<|JS_mv rfl<|QE ?_
   exact Ql (⟨i.i+1,i2.s,hlt,by rw [i2.hp,hge2,Nat.add_mul,Nat.one_mul]⟩) (by show p.2.length - (i.i+1)<p.2.length - i.i;omega) ⟨rfl,rfl,rfl,rfl,rfl,trivial⟩ (.cons _ subl_r) (fun F h=>⟨h.1.1,h.2⟩)
 ·
  have hge:i.i=p.2.length:=by have:=dec_f hc;omega
  refine Qy ?_
  repeat (first | refine QZ ?_ | refine QV (by rfl) ?_)
  refine Qa<|Dk ?_
  exact Yt (γ:={ s:ι // pos s=p.2.length*q.2.length }) ⟨i.s,by rw [i.hp,hge]⟩ rfl .nil rfl (fun w h=>h.imp subl_r (fun F h=>h.2))
end
section
open Go.RowKit Ig
structure GM where
 x:Fr
 t:Tm
instance :Inhabited GM:=⟨⟨default,(0,[])⟩⟩
def Px (ms:List GM):List (jg 25×Value):=ms.map fun e=>(YB e.t.2,e.x.v)
def Y4 (ms:List GM):List Tm:=ms.map (·.t)
def De:List GM→GM→List GM
 |[],n=>[n]
 |t::l,n=>if n.t.2=t.t.2 then n::l else t::De l n
theorem TK {a b:List Int} {n:Nat} (hn:n≤25) (ha:a.length=n) (hb:b.length=n) (h:YB a=YB b):a=b:=by
 have h1:(List.range 25).map (Qb a)=(List.range 25).map (Qb b):=congrArg Subtype.val h
 apply List.ext_getElem (by omega)
 intro i h2 h3
 have h4:=congrArg (fun l=>l[i]?) h1
 simp only [List.getElem?_map,List.getElem?_range (show i<25 by omega),Option.map_some,Option.some.injEq] at h4
 simpa [Qb,h2,h3] using h4
theorem PQ:∀ (ms:List GM) (n:GM),Y4 (De ms n)=Hu (Y4 ms) n.t
 |[],n=>rfl
 |t::l,n=>by
  have ih:=PQ l n
  unfold Y4 at ih ⊢
  simp only [De,List.map_cons,Hu]
  split
  ·simp
  ·simp [ih]
theorem BW {ts:List GM} {n x:GM} (h:x∈De ts n):x=n∨x∈ts:=by
 induction ts with
 |nil=>simp [De] at h;exact .inl h
 |cons t l ih =>
  simp only [De] at h
  split at h
  ·rcases List.mem_cons.1 h with h | h
   ·exact .inl h
   ·exact .inr (List.mem_cons_of_mem _ h)
  ·rcases List.mem_cons.1 h with h | h
   ·exact .inr (h ▸ List.mem_cons_self)
   ·rcases ih h with h | h
    ·exact .inl h
    ·exact .inr (List.mem_cons_of_mem _ h)
def uo (n:Nat) (ms:List GM):Prop:=∀ e∈ms,e.t.2.length=n
theorem NI {w:Nat} (hw:w≤25):∀ (ms:List GM) (n:GM),uo w ms→n.t.2.length=w→Px (De ms n)=BQ (Px ms) (YB n.t.2) n.x.v
 |[],n,_,_=>rfl
 |t::l,n,h,hn=>by
  have ih:=NI hw l n (fun e he=>h e (List.mem_cons_of_mem _ he)) hn
  unfold Px at ih ⊢
  simp only [De,List.map_cons,BQ]
  by_cases g:n.t.2=t.t.2
  ·rw [if_pos g,if_pos (congrArg YB g)];simp
  ·rw [if_neg g,if_neg fun e=>g (TK hw hn (h t List.mem_cons_self) e)];simp [ih]
theorem xU {w:Nat} (hw:w≤25):∀ (ms:List GM) (p:List Int) (i:Nat),uo w ms→p.length=w→(Zt (Px ms) (YB p) i=none∧p∉(Y4 ms).map (·.2))∨∃ j,∃ t∈ms,t.t.2=p∧Zt (Px ms) (YB p) i=some (j,t.x.v)
 |[],_,_,_,_=>.inl ⟨rfl,by simp [Y4]⟩
 |t::l,p,i,h,hp=>by
  by_cases g:p=t.t.2
  ·exact .inr ⟨i,t,List.mem_cons_self,g.symm,by show(if _ then _ else _)=_;rw [if_pos (congrArg YB g)]⟩
  ·have g2:¬ YB p=YB t.t.2:=fun e=>g (TK hw hp (h t List.mem_cons_self) e)
   rcases xU hw l p (i+1) (fun e he=>h e (List.mem_cons_of_mem _ he)) hp with ⟨h1,h2⟩ | ⟨j,u,hu,h1,h2⟩
   ·refine .inl ⟨?_,?_⟩
    ·show(if _ then _ else _)=_
     rw [if_neg g2];exact h1
    ·simp only [Y4,List.map_cons,List.mem_cons,not_or];exact⟨g,h2⟩
   ·refine .inr ⟨j,u,List.mem_cons_of_mem _ hu,h1,?_⟩
    show(if _ then _ else _)=_
    rw [if_neg g2];exact h2
def gq (F:Gs) (ms:List GM):Prop:=∀ e∈ms,JV F e.x e.t.1
theorem gq.le {F F':Gs} {ms:List GM} (h:gq F ms) (k:Gs.le F F'):gq F' ms:=fun e he=>(h e he).le k
structure El (n:Nat) (ms:List GM) (l:List Tm):Prop where
 UO:Iv (Y4 ms) l
 wd:uo n ms
 pw:∀ e∈ms,PW e.t.2
 ln:ms.length≤l.length
theorem El.nil {n:Nat}:El n [] []:=⟨Iv.nil,(fun _ h=>by cases h),(fun _ h=>by cases h),Nat.le_refl _⟩
theorem CF (ms:List GM) (n:GM):(De ms n).length≤ms.length+1:=by
 induction ms with
 |nil=>exact Nat.le_refl _
 |cons t l ih =>
  simp only [De]
  split<;>simp only [List.length_cons]<;>omega
theorem El.add {w:Nat} {ms:List GM} {l:List Tm} (h:El w ms l) {f:Rat} {p:List Int} (hp:PW p) (hw:p.length=w) {n:GM} (hn:n.t=(f+Jf (Y4 ms) p,p)):El w (De ms n) (l++[(f,p)]) :=
 ⟨by rw [PQ,hn];exact h.UO.add f p,fun t ht=>by
  rcases BW ht with rfl | ht
  ·rw [hn];exact hw
  ·exact h.wd t ht,fun t ht=>by
  rcases BW ht with rfl | ht
  ·rw [hn];exact hp
  ·exact h.pw t ht,by have:=CF ms n;have:=h.ln;rw [List.length_append];simp only [List.length_singleton];omega⟩
theorem El.sz {w:Nat} {ms:List GM} {l:List Tm} (h:El w ms l) {t:GM} (ht:t∈ms):JO t.t.1≤ZV l+1:=by
 rw [← h.UO.Bv (List.mem_map_of_mem (f:=GM.t) ht),h.UO.eq];exact BF _ _
structure gm (n:Nat) (l:List Tm) where
 k:Nat
 ms:List GM
 hI:El n ms (l.take k)
theorem OC {p q:List XT} {i j:Nat} (hi:i<p.length) (hj:j<q.length):(Q8 (JG p) (JG q))[i*q.length+j]?=some ((el p i).t.1*(el q j).t.1,J0 (el p i).t.2 (el q j).t.2):=by
 induction p generalizing i with
 |nil=>simp at hi
 |cons a p ih =>
  rw [show JG (a::p)=a.t::JG p from rfl,Xb]
  have hl:(Jn a.t (JG q)).length=q.length:=by simp [Jn,JG]
  cases i with
  |zero =>
   rw [Nat.zero_mul,Nat.zero_add,List.getElem?_append_left (by omega)]
   simp [Jn,JG,ZA hj,hj,el]
  |succ i =>
   rw [List.getElem?_append_right (by rw [hl,Nat.add_mul];omega),hl,show(i+1)*q.length+j - q.length=i*q.length+j by rw [Nat.add_mul];omega]
   have:=ih (i:=i) (by simpa using hi)
   rw [this];simp [el]
theorem Cw {l:List Tm} {k:Nat} {t:Tm} (h:l[k]?=some t):l.take (k+1)=l.take k++[t]:=by
 obtain ⟨h1,rfl⟩:=List.getElem?_eq_some_iff.1 h
 rw [List.take_succ_eq_append_getElem h1]
theorem xx {l:List Tm} {k:Nat}:ZV (l.take k)≤ZV l:=Cy (List.take_append_drop k l)
theorem NC:TV Tryz.prog 152 160 130=true:=by kernel_rfl
theorem R4:SP Tryz.prog 160 (VP (n:=25)):=.arr (e:=3) (by kernel_rfl) (by kernel_rfl) (by kernel_rfl)
theorem Cp:kf Tryz.prog 130=some (.agg #[.int .i64 0,.slice none 0 0,.int .i64 0,.slice none 0 0]):=by kernel_rfl
end
section
open Go.RowKit Ig
theorem DF:YA Tryz.prog 152=some (false,1):=by kernel_rfl
theorem kj:XI Tryz.prog 152=some [.map none]:=by kernel_rfl
theorem U2 {w:World} {F:Gs} {p q:Sr} (hF:Fits F w):QT Tryz.prog 129 [p.v,q.v] w F (fun(c:Nat×Nat)=>.func (.func 209) #[] #[.pointer (some ⟨c.1,0,none⟩),.pointer (some ⟨c.2,0,none⟩)]) (fun c F=>F c.1=some (#[p.v],157)∧F c.2=some (#[q.v],157)):=by
 dsimp only [Sr.v]
 refine QT.intro (G:=fun F=>True) Tryz.func129 rfl (by rfl) rfl rfl hF (fun F' hF'=>trivial)<|J_sr<|Q5 rfl (vs:=[_]) rfl (fun b2=>Q5 rfl (vs:=[_]) rfl (fun b3=>JS_as rfl<|JS_nt<|J_sr<|Wf (b:=b2) (.there .here)<|Wf (b:=b3) .here<|QA (My rfl)<|JS_as rfl<|JS_nt<|QS ?_))
 exact QR ((b2,b3)) rfl (.tmp rfl .nil) (rfl) (fun F h=>⟨h.1.2,h.2⟩)
section
variable [Dr]
theorem qW {w:World} {F:Gs} {a b:XT} (hF:Fits F w) (hA:SY F a) (hB:SY F b) (pa:PW a.t.2) (pb:PW b.t.2):Qc Tryz.prog 135 [U9 a,U9 b] w F (.int .i64 (K8 a.t.2 b.t.2)):=by
 refine QT.intro (G:=fun F=>SY F a∧SY F b) Tryz.func135 rfl (by rfl) rfl rfl hF (fun F' hF'=>⟨hA.le hF',hB.le hF'⟩)<|J_sr<|Q5 rfl (vs:=[_,_,_,_,_]) rfl (fun b2=>Q5 rfl (vs:=[_,_,_,_,_]) rfl (fun b3=>JS_as rfl<|JS_nt<|J_sr<|QA (QI rfl X1 Qv)<|QA (Qo rfl Qv (.there .here) (.skip (.skip (.skip (.skip (.here .nil))))))<|QA (QI rfl X1 Qv)<|QA (Qo rfl Qv .here (.skip (.skip (.skip (.skip (.here .nil))))))<|QH rfl (fun w F hF h9=>Hm hF (ra:=a.r) (rb:=b.r) h9.1.2 (h9.2.2) (pa) (pb)) (fun _=>JS_as rfl<|JS_nt<|QS ?_)))
 exact F_r1 rfl rfl (rfl) (fun F h9=>trivial)
end
theorem O6:Ah 135:=⟨enters_of Tryz.func135 (by rfl) rfl,fun w F a b hF hA hB pa pb=>@qW ⟨True⟩ w F a b hF hA hB pa pb⟩
end
section
open Go.RowKit Ig
theorem Rf {l vs:List Value} (h:l.length=vs.length):Ko l 0 vs vs:=by
 have h1:=Ko.mk' 0 l vs (by omega)
 rwa [List.take_zero,List.nil_append,Nat.zero_add,List.drop_of_length_le (by omega),List.append_nil] at h1
theorem KA (l:List Int):((YB l).1.map Qx).length=25:=by simp [YB]
theorem Rm (l:List Int):Hn ((YB l).1.map Qx):=by
 have key:∀ (x:List Int),Hn (x.map Qx):=by
  intro x
  induction x with
  |nil=>trivial
  |cons a x ih=>exact⟨rfl,ih⟩
 exact key _
theorem Lu {F:Gs} {b n:Nat} {l:List Int} (h:F b=some (((YB l).1.map Qx).toArray,160)) (hl:l.length=n) (hn:n≤25):JL F ⟨some ⟨b,0,none⟩,n,25⟩ l:=by
 refine⟨⟨by simp [hl],fun _=>⟨b,0,_,_,rfl,h,fun j u hu=>?_⟩⟩,hl,hn⟩
 rw [Nat.zero_add]
 have hj:j<l.length:=by
  rcases Nat.lt_or_ge j l.length with g | g
  ·exact g
  ·rw [List.getElem?_eq_none (by simpa using g)] at hu;cases hu
 have h25:j<25:=by omega
 rw [List.getElem?_map,List.getElem?_eq_getElem hj] at hu
 simp only [Option.map_some,Option.some.injEq] at hu
 rw [← hu]
 simp [YB,h25,Qb,hj]
section
variable [Dr] [df:Df] {P:Program} {Q:Exit→Act→World→Prop} {N:Nat} {m:Sl} {ops:Array Oper} {l:List Oper} {E E':Env}
theorem jc (h:∀ w,St E w→St E' w) (k:JS P ops Q l N m E'):JS P ops Q l N m E:=fun a w ha hw=>k a w ha (h w hw)
theorem UH {w0:World} {F0:Gs} {bs bs':List (Nat×Obj)} {G:Gs→Prop} {E0:Env} (hp:bs.Perm bs') (k:JD P ops Q E0 l N m ⟨w0,F0,bs',G⟩):JD P ops Q E0 l N m ⟨w0,F0,bs,G⟩:=fun hE a w ha hw=>k (fun w h=>hE w (h.perm hp.symm)) a w ha (hw.perm hp)
end
theorem Mv {N:Nat} {m:Sl} {ps:Array Tmp} {assign body:Code} {r:Loop} (h:CH N m ps assign body r):{ ({ r with state:=.busy }:Loop) with state:=.ready,pending:=none }=r:=by
 obtain ⟨h1,h2,_,_,_,_⟩:=h
 cases r;simp only at h1 h2;subst h1;subst h2;rfl
theorem D1 {N:Nat} {m:Sl} {p1 p2:Tmp} {assign body:Code} {r:Loop} (h:CH N m #[p1,p2] assign body r) (v1 v2:Value) (h1:p1<N) (h2:p2<N):Jr (df:=VA) N ((p2,v2)::(p1,v1)::m) (Ra r #[v1,v2]):=by
 have e:Ra r #[v1,v2]=((({ tmps:=r.tmps,defers:=[] }:Act).put (some p1) v1).put (some p2) v2):=by
  unfold Ra;rw [h.params];simp [Act.put]
 rw [e]
 exact(h.vG.put (d:=some p1) (by simpa [J4] using h1) v1).put (d:=some p2) (by simpa [J4] using h2) v2
def qP (l:List Tm):List Tm:=l.filter fun t=>decide (t.1≠0)
structure kZ (ms:List GM) where
 seen:List Nat
 os:List XT
 v:Value
 n:Nat
 ob:List (Nat×Obj)
 hr:Qz 165 5 v n (os.flatMap YY) ob
 nd:seen.Nodup
 lt:∀ j∈seen,j<ms.length
 hn:os.length=n
 ho:JG os=qP (Y4 (seen.map (el ms)))
theorem WE (p q:List Tm):(Q8 p q).length=p.length*q.length:=by
 unfold Q8
 induction p with
 |nil=>simp
 |cons a p ih=>rw [List.flatMap_cons,List.length_append,ih,List.length_cons,Nat.add_mul];simp [Jn];omega
theorem Pr {p q:List Tm} {t:Tm} (h:t∈Q8 p q):∃ s∈p,∃ u∈q,t.2=J0 s.2 u.2:=by
 unfold Q8 Jn at h
 obtain ⟨s,hs,h1⟩:=List.mem_flatMap.1 h
 obtain ⟨u,hu,rfl⟩:=List.mem_map.1 h1
 exact⟨s,hs,u,hu,rfl⟩
theorem qE {p q:List Tm} (lp:p.length≤64) (lq:q.length≤64) (hp:∀ t∈p,JO t.1≤2400) (hq:∀ t∈q,JO t.1≤2400):ZV (Q8 p q)≤30000000:=by
 have h1:=Hf (l:=Q8 p q) (k:=4800) fun t ht=>by
  unfold Q8 Jn at ht
  obtain ⟨s,hs,h1⟩:=List.mem_flatMap.1 ht
  obtain ⟨u,hu,rfl⟩:=List.mem_map.1 h1
  have:=XJ s.1 u.1
  have:=hp s hs
  have:=hq u hu
  show JO (s.1*u.1)≤_
  omega
 rw [WE] at h1
 have h2:p.length*q.length≤64*64:=Nat.mul_le_mul lp lq
 have h3:p.length*q.length*4801≤64*64*4801:=Nat.mul_le_mul_right _ h2
 omega
theorem Yh.small {p:Pt} {v:Int} (h:Yh p v):∀ t∈JA p,∀ k∈t.2,0≤k∧k≤12:=fun t ht=>by
 unfold JA at ht
 obtain ⟨x,hx,rfl⟩:=List.mem_map.1 ht
 exact(Z8 (h.term x hx)).2.1
theorem qA {a b:List Int} (ha:∀ k∈a,0≤k∧k≤12) (hb:∀ k∈b,0≤k∧k≤12) (hl:a.length≤1000):PW (J0 a b):=by
 refine⟨fun x hx=>?_,by unfold J0;simp;omega⟩
 unfold J0 at hx
 obtain ⟨i,hi,rfl⟩:=List.getElem_of_mem hx
 simp only [List.length_zipWith] at hi
 have h1:=ha (a[i]'(by omega)) (List.getElem_mem _)
 have h2:=hb (b[i]'(by omega)) (List.getElem_mem _)
 simp only [List.getElem_zipWith]
 omega
theorem FC (ms:List GM):(Px ms).length=ms.length:=by simp [Px]
theorem qQ {ms:List GM} {seen:List Nat} {j:Nat} {t:GM} {os:List XT} {o:XT} (e:el ms j=t) (h:t.t.1≠0) (ho:JG os=qP (Y4 (seen.map (el ms)))) (hot:o.t=t.t):JG (os++[o])=qP (Y4 ((seen++[j]).map (el ms))):=by
 have e1:JG (os++[o])=JG os++[o.t]:=by unfold JG;rw [List.map_append];rfl
 have e2:Y4 ((seen++[j]).map (el ms))=Y4 (seen.map (el ms))++[t.t]:=by unfold Y4;rw [List.map_append,List.map_append,List.map_cons,List.map_nil,e];rfl
 rw [e1,e2,ho,hot]
 unfold qP
 rw [List.filter_append]
 simp [h]
theorem zR {ms:List GM} {seen:List Nat} {j:Nat} {t:GM} {os:List XT} (e:el ms j=t) (h:t.t.1=0) (ho:JG os=qP (Y4 (seen.map (el ms)))):JG os=qP (Y4 ((seen++[j]).map (el ms))):=by
 have e2:Y4 ((seen++[j]).map (el ms))=Y4 (seen.map (el ms))++[t.t]:=by unfold Y4;rw [List.map_append,List.map_append,List.map_cons,List.map_nil,e];rfl
 rw [e2,ho]
 unfold qP
 rw [List.filter_append]
 simp [h]
theorem OX {n:Nat} {ms:List GM} {os cs:List XT} {l:List Tm} {seen:List Nat} (hI:El n ms l) (hn:seen.Nodup) (hlt:∀ j∈seen,j<ms.length) (hall:∀ j,j<ms.length→j∈seen) (ho:JG os=qP (Y4 (seen.map (el ms)))) (hp:cs.Perm os) (hs:cs.Pairwise fun x y=>before y.t.2 x.t.2=false):JG cs=JQ l:=by
 have h1:(Y4 (seen.map (el ms))).Perm (Y4 ms):=by
  have:=(S1 hn hlt hall).map (el ms)
  rw [BX] at this
  exact this.map _
 have h2:(JG cs).Perm ((Y4 ms).filter fun t=>decide (t.1≠0)):=by
  have e:(JG cs).Perm (JG os):=hp.map _
  rw [ho] at e
  exact e.trans (h1.filter _)
 refine hI.UO.norm h2 ?_
 have hnd:((JG cs).map (·.2)).Nodup:=by
  have h3:((JG cs).map (·.2)).Perm (((Y4 ms).filter fun t=>decide (t.1≠0)).map (·.2)):=h2.map _
  rw [h3.nodup_iff]
  exact(List.filter_sublist.map _).nodup hI.UO.nd
 unfold JG at hnd ⊢
 rw [List.pairwise_map]
 rw [List.map_map] at hnd
 have hnd2:=List.pairwise_map.1 hnd
 refine(hs.and hnd2).imp ?_
 rintro x y ⟨h1,h2⟩
 rcases Y8 x.t.2 y.t.2 with e | e | e
 ·exact absurd e h2
 ·exact e
 ·rw [h1] at e;cases e
theorem kZ.bound {ms:List GM} (s:kZ ms):s.n≤ms.length:=by
 have h1:=congrArg List.length s.ho
 have h2:=List.length_filter_le (fun t:Tm=>decide (t.1≠0)) (Y4 (s.seen.map (el ms)))
 have h3:=Gc _ _ s.nd s.lt
 unfold qP at h1
 simp only [JG,Y4,List.length_map] at h1 h2
 have:=s.hn
 omega
theorem kZ.mem {n:Nat} {ms:List GM} {l:List Tm} (hI:El n ms l) (s:kZ ms):∀ t∈s.os,PW t.t.2:=fun t ht=>by
 have h1:t.t∈JG s.os:=List.mem_map_of_mem ht
 rw [s.ho] at h1
 have h2:=(List.mem_filter.1 h1).1
 obtain ⟨e,he,h3⟩:=List.mem_map.1 h2
 obtain ⟨j,hj,h4⟩:=List.mem_map.1 he
 rw [← h3,← h4]
 exact hI.pw _ (JN (s.lt j hj))
theorem IC {w:World} {F:Gs} {a b:Yw} {v:Int} (hF:Fits F w) (hGl:JC F) (hA:Z9 F [a,b]) (ht:∀ e∈[a,b],VB e) :
  QT Tryz.prog 40 [a.1.v,b.1.v,.int .i64 v] w F (fun(c:Yw)=>.tuple #[c.1.v,.int .i64 (yw [a,b] v (JQ (Q8 (JA (Jp a.2)) (JA (Jp b.2)))))]) (fun c F=>ZR F c.1 c.2 (yv [a,b] v (JQ (Q8 (JA (Jp a.2)) (JA (Jp b.2)))))):=by
 have ha:a∈[a,b]:=by simp
 have hb:b∈[a,b]:=by simp
 dsimp only [Sr.v]
 refine QT.zi (G:=fun F=>JC F∧Z9 F [a,b]) Tryz.func40 rfl (by rfl) rfl rfl hF (fun F' hF'=>⟨hGl.le hF',hA.le hF'⟩)<|J_sr<|JS_as rfl<|JS_as rfl<|JS_nt<|QG<|J_sr<|JS_mv rfl<|JS_mv rfl<|JS_mv rfl<|QW rfl (Q7 DA) Gn jh rfl rfl (fun b20=>QH rfl (fun w F hF h9=>GI hF h9.1.1 (Q4.of (n:=2) (sz:=1) (cs:=[a,b].map fun e=>e.1.v) h9.2 rfl) (h9.1.2) (rfl) (by decide) (ht)) (fun _=>JS_as rfl<|JS_nt<|J_sr<|JS_mv rfl<|QA (QU rfl rfl rfl)<|QE<|QC ?_))
 refine QP rfl (fun hc=>?_) (fun hc=>?_)
 ·
  have hc0:=bne_iff_ne.1 hc
  refine J_sr<|JS_mv rfl<|JS_as rfl<|JS_as rfl<|JS_nt<|QS<|CL ?_
  exact JX ((⟨none,0,0⟩,[])) rfl (.tmp rfl (.tmp rfl .nil)) (by unfold yw;rw [if_neg hc0]) (fun F h9=>by unfold yv;rw [if_neg hc0];exact ZR.nil F)
 ·
  have hc0:=bne_eq_false_iff_eq.1 hc
  obtain ⟨hv,hok⟩:=Du hc0
  have oa:=hok a ha
  have ob:=hok b hb
  have sa:=oa.ZV
  have sb:=ob.ZV
  have hpa:∀ t∈JA (Jp a.2),PW t.2:=oa.pw hv.2
  have hpb:∀ t∈JA (Jp b.2),PW t.2:=ob.pw hv.2
  have hwa:∀ t∈JA (Jp a.2),t.2.length=(v+1).toNat:=fun t ht=>by have:=oa.wide t ht;omega
  have hwb:∀ t∈JA (Jp b.2),t.2.length=(v+1).toNat:=fun t ht=>by have:=ob.wide t ht;omega
  have la:(JA (Jp a.2)).length≤64:=by unfold JA;rw [List.length_map];exact oa.len
  have lb:(JA (Jp b.2)).length≤64:=by unfold JA;rw [List.length_map];exact ob.len
  have hsz:ZV (Q8 (JA (Jp a.2)) (JA (Jp b.2)))≤30000000:=qE la lb oa.sz ob.sz
  have hpp:∀ s∈JA (Jp a.2),∀ t∈JA (Jp b.2),PW (J0 s.2 t.2):=fun s hs t ht=>qA (oa.small s hs) (ob.small t ht) (by rw [hwa s hs];omega)
  have hpn:=D4 (l:=Q8 (JA (Jp a.2)) (JA (Jp b.2))) fun t ht=>by
   obtain ⟨s,hs,t',ht',e⟩:=Pr ht
   rw [e];exact hpp s hs t' ht'
  have hll:(Q8 (JA (Jp a.2)) (JA (Jp b.2))).length≤4096:=by rw [WE];exact Nat.mul_le_mul la lb
  have hln:=Va (Q8 (JA (Jp a.2)) (JA (Jp b.2)))
  refine QO<|QC<|J_sr<|VS (κ:=jg 25) VP (fun m=>Qf kj (fun b9=>QQ (vs:=[_]) rfl rfl rfl DF rfl .here (.here .nil) ⟨rfl,trivial⟩<|JS_nt<|QG<|J_sr<|JS_mv rfl<|QH rfl (fun w F hF h9=>KV hF h9.1.1.1 (a:=a) (h9.1.1.2 a ha).1 (h9.1.1.2 a ha).2 (ht a ha) oa hv) (fun c27=>JH _ (fun w F hF h=>And.intro h.2.2.2.1 (And.intro h.2.len (And.intro h.2.2.2.2.2 (fun t ht=>(h.2.2.1 t ht).2.2.1)))) (fun h27p=>?_))))
  obtain ⟨e27,l27,m27,r27⟩:=h27p
  refine JS_mv rfl<|QH rfl (fun w F hF h9=>KV hF h9.1.1.1.1 (a:=b) (h9.1.1.1.2 b hb).1 (h9.1.1.1.2 b hb).2 (ht b hb) ob hv) (fun c29=>JH _ (fun w F hF h=>And.intro h.2.2.2.1 (And.intro h.2.len (And.intro h.2.2.2.2.2 (fun t ht=>(h.2.2.1 t ht).2.2.1)))) (fun h29p=>?_))
  obtain ⟨e29,l29,m29,r29⟩:=h29p
  refine QH rfl (fun w F hF h9=>U2 (p:=c27.1) (q:=c29.1) hF) (fun c30=>JS_nt<|QX<|gr (fun G hG=>?_))
  have hgl:∀ F,G F→JC F:=fun F h=>by obtain ⟨⟨⟨⟨⟨⟨hGl,hA⟩,hs20⟩,_⟩,h27⟩,h29⟩,h30⟩:=hG F h;exact hGl
  have hpr:∀ F,G F→F c30.1=some (#[c27.1.v],157)∧F c30.2=some (#[c29.1.v],157)∧Jm F c27.1 c27.2 (JG c27.2)∧Jm F c29.1 c29.2 (JG c29.2):=fun F h=>by
   obtain ⟨⟨⟨⟨⟨⟨hGl,hA⟩,hs20⟩,_⟩,h27⟩,h29⟩,h30⟩:=hG F h
   exact⟨h30.1,h30.2,by rw [e27];exact h27,by rw [e29];exact h29⟩
  have hvn:(v+1).toNat≤25:=by omega
  have hlp:(Q8 (JG c27.2) (JG c29.2))=(Q8 (JA (Jp a.2)) (JA (Jp b.2))):=by rw [e27,e29]
  refine UE (ι:=gm (v+1).toNat (Q8 (JA (Jp a.2)) (JA (Jp b.2)))) (fun s=>[(b9,.cells [.map (some m)].toArray 152 (0,0)),(m,X5 VP (Px s.ms))]) (fun s F=>gq F s.ms) (fun s=>s.k=(Q8 (JA (Jp a.2)) (JA (Jp b.2))).length) rfl (enters_of Tryz.func209 (by rfl) rfl) (fun L D r W hrec hW=>?_) (fun D s hs=>?_)
  ·have hprod:=TB (ι:=gm (v+1).toNat (Q8 (JA (Jp a.2)) (JA (Jp b.2)))) (w0:=w) (F0:=F) (B:=fun s=>(L,.loop r)::(D,.deferred (some []))::(b9,.cells [.map (some m)].toArray 152 (0,0))::[(m,X5 VP (Px s.ms))]) (H:=fun s F=>G F∧gq F s.ms) (pos:=fun s=>s.k) (p:=c27) (q:=c29) (b1:=c30.1) (b2:=c30.2) (L:=L) (n:=(v+1).toNat)
    (fun s F h=>hpr F h.1) ⟨m27,m29⟩
    ⟨fun t ht=>⟨Jz e27 hwa t ht,by rw [← r27 t ht];exact Jz e27 hwa t ht,Jz e27 hpa t ht⟩,fun t ht=>⟨Jz e29 hwb t ht,by rw [← r29 t ht];exact Jz e29 hwb t ht,Jz e29 hpb t ht⟩⟩ hvn (by omega)
    ⟨fun t ht=>Nat.le_trans (Jz (Q:=fun t=>JO t.1≤2400) e27 oa.sz t ht) (by omega),fun t ht=>Nat.le_trans (Jz (Q:=fun t=>JO t.1≤2400) e29 ob.sz t ht) (by omega)⟩
    (fun G' C s i j x W hi hj hk hst=>?_) ⟨0,[],El.nil⟩ rfl
   ·refine(hprod.2 W (hW.Bb fun F h=>⟨h,fun e he=>by cases he⟩)).mono ?_
    rintro e w' ⟨c,rfl,h⟩
    refine⟨⟨_,rfl⟩,c.1,?_,h⟩
    have h1:=c.2
    rw [h1,← hlp,Pg,Yy,Yy]
   ·have hat:=OC hi hj
    rw [hlp,← hk] at hat
    obtain ⟨ta,hta⟩:∃ ta,ta=el c27.2 i:=⟨_,rfl⟩
    obtain ⟨tb,htb⟩:∃ tb,tb=el c29.2 j:=⟨_,rfl⟩
    have hma:ta.t∈JA (Jp a.2):=by rw [hta,← e27];exact List.mem_map_of_mem (JN hi)
    have hmb:tb.t∈JA (Jp b.2):=by rw [htb,← e29];exact List.mem_map_of_mem (JN hj)
    rw [← hta,← htb] at hat hst ⊢
    obtain ⟨f,hfe⟩:∃ f,f=ta.t.1*tb.t.1:=⟨_,rfl⟩
    obtain ⟨p,hpe⟩:∃ p,p=J0 ta.t.2 tb.t.2:=⟨_,rfl⟩
    have hpw:PW p:=by rw [hpe];exact hpp _ hma _ hmb
    have hpl:p.length=(v+1).toNat:=by rw [hpe,Yx (by rw [hwa _ hma,hwb _ hmb]),hwa _ hma]
    rw [← hfe,← hpe] at hat
    rw [← hfe] at hst
    rw [← hpe]
    have htk:=Cw hat
    have hzf:JO f≤20000000:=by have:=XJ ta.t.1 tb.t.1;have:=oa.sz _ hma;have:=ob.sz _ hmb;rw [hfe];omega
    rcases xU hvn s.ms p 0 s.hI.wd hpl with ⟨hfm,hm⟩ | ⟨jj,t0,ht0,h0,hfm⟩
    ·
     refine Mc hst .here (by rw [hrec.params];rfl) (D1 hrec _ _ (by decide) (by decide)) ?_
     rw [hrec.assign,hrec.body]
     refine GP<|ZQ (Xz L) (fun⟨_,_,h⟩=>h) rfl<|Qf Ai (fun b10=>QQ (vs:=(YB p).1.map Qx) rfl rfl rfl Wy (KA _) .here (Rf (by rw [KA];rfl)) (Rm _)<|QE<|Vi<|ZQ (Xz L) (fun⟨_,_,h⟩=>h) rfl<|Qf Xp (fun b11=>QQ (vs:=[_,_,_,_]) rfl rfl rfl Qe rfl .here (.here (.here (.here (.here .nil)))) ⟨rfl,rfl,rfl,rfl,trivial⟩<|QE<|FZ (.there (.there .here)) hrec.state<|UG<|GP<|GP<|ZQ (Xz L) (fun⟨_,_,h⟩=>h) rfl<|QA (Qo rfl DF (.there (.there (.there (.there .here)))) (.here .nil))<|QA (QL (vs:=(YB p).1.map Qx) rfl Wy (.there .here) (Nu.all _) (KA _))<|QA (Pb R4 rfl rfl NC Cp (.there (.there (.there (.there (.there .here))))) hfm)<|JS_mv rfl<|QA (QK rfl rfl)<|QA (QK rfl rfl)<|Qf Xp (fun b12=>QQ (vs:=[_,_,_,_]) rfl rfl rfl Qe rfl .here (.here (.here (.here (.here .nil)))) ⟨rfl,rfl,rfl,rfl,trivial⟩<|JS_as rfl<|QE ?_)))
     refine Vi<|GP<|ZQ (Xz L) (fun⟨_,_,h⟩=>h) rfl<|JS_mv rfl<|QE<|Vi ?_
     refine FW rfl (fun hc=>?_) (fun hc=>?_)
     ·cases hc
     ·refine jd ?_
      refine Vi<|ZQ (Xz L) (fun⟨_,_,h⟩=>h) rfl<|QA (Qo rfl DF (.there (.there (.there (.there (.there .here))))) (.here .nil))<|QA (QL (vs:=(YB p).1.map Qx) rfl Wy (.there (.there .here)) (Nu.all _) (KA _))<|QA (QL (vs:=[_,_,_,_]) rfl Qe (.there .here) (.here (.here (.here (.here .nil)))) rfl)<|Gm (k:=YB p) (v:=x.v) R4 rfl rfl rfl NC (.there (.there (.there (.there (.there (.there .here))))))<|QE<|Qk ?_
      refine FY (.there (.there (.there .here))) (fun w1 hw1=>⟨rfl,⟨s.k+1,De s.ms ⟨x,(f,p)⟩,by rw [htk];exact s.hI.add hpw hpl (by rw [RC hm,Rat.add_zero])⟩,rfl,?_⟩)
      rw [Mv hrec,← NI hvn s.ms ⟨x,(f,p)⟩ s.hI.wd hpl] at hw1
      exact St.imp hw1 (.cons _ (.cons _ (.cons _ subl_r))) (fun F h=>⟨h.1.1,h.1.2.1,fun e he=>by
       rcases BW he with rfl | he
       ·exact h.2
       ·exact h.1.2.2 e he⟩)
    ·
     have hzc:=s.hI.sz ht0
     have hzt:=xx (l:=(Q8 (JA (Jp a.2)) (JA (Jp b.2)))) (k:=s.k)
     have hc0:Jf (Y4 s.ms) p=t0.t.1:=by rw [← h0];exact s.hI.UO.Bv (List.mem_map_of_mem (f:=GM.t) ht0)
     refine Mc hst .here (by rw [hrec.params];rfl) (D1 hrec _ _ (by decide) (by decide)) ?_
     rw [hrec.assign,hrec.body]
     refine GP<|ZQ (Xz L) (fun⟨_,_,h⟩=>h) rfl<|Qf Ai (fun b10=>QQ (vs:=(YB p).1.map Qx) rfl rfl rfl Wy (KA _) .here (Rf (by rw [KA];rfl)) (Rm _)<|QE<|Vi<|ZQ (Xz L) (fun⟨_,_,h⟩=>h) rfl<|Qf Xp (fun b11=>QQ (vs:=[_,_,_,_]) rfl rfl rfl Qe rfl .here (.here (.here (.here (.here .nil)))) ⟨rfl,rfl,rfl,rfl,trivial⟩<|QE<|FZ (.there (.there .here)) hrec.state<|UG<|GP<|GP<|ZQ (Xz L) (fun⟨_,_,h⟩=>h) rfl<|QA (Qo rfl DF (.there (.there (.there (.there .here)))) (.here .nil))<|QA (QL (vs:=(YB p).1.map Qx) rfl Wy (.there .here) (Nu.all _) (KA _))<|QA (S9 R4 rfl rfl NC (.there (.there (.there (.there (.there .here))))) hfm)<|JS_mv rfl<|QA (QK rfl rfl)<|QA (QK rfl rfl)<|Qf Xp (fun b12=>QQ (vs:=[_,_,_,_]) rfl rfl rfl Qe rfl .here (.here (.here (.here (.here .nil)))) ⟨rfl,rfl,rfl,rfl,trivial⟩<|JS_as rfl<|QE ?_)))
     refine Vi<|GP<|ZQ (Xz L) (fun⟨_,_,h⟩=>h) rfl<|JS_mv rfl<|QE<|Vi ?_
     refine FW rfl (fun hc=>?_) (fun hc=>?_)
     ·refine ZQ (Xz L) (fun⟨_,_,h⟩=>h) rfl ?_
      refine QA (QL (vs:=[_,_,_,_]) rfl Qe (.there .here) (.here (.here (.here (.here .nil)))) rfl)<|QA (QL (vs:=[_,_,_,_]) rfl Qe .here (.here (.here (.here (.here .nil)))) rfl)<|QH rfl (fun w F hF h=>EZ (x:=x) (y:=t0.x) (r:=f) (s:=t0.t.1) hF h.2 (h.1.2.2 t0 ht0) (by omega) (by omega)) (fun x42=>QQ (vs:=[_,_,_,_]) rfl rfl rfl Qe rfl (.there .here) (.here (.here (.here (.here .nil)))) ⟨rfl,rfl,rfl,rfl,trivial⟩<|QE<|Vi<|ZQ (Xz L) (fun⟨_,_,h⟩=>h) rfl<|QA (Qo rfl DF (.there (.there (.there (.there (.there .here))))) (.here .nil))<|QA (QL (vs:=(YB p).1.map Qx) rfl Wy (.there (.there .here)) (Nu.all _) (KA _))<|QA (QL (vs:=[_,_,_,_]) rfl Qe (.there .here) (.here (.here (.here (.here .nil)))) rfl)<|Gm (k:=YB p) (v:=x42.v) R4 rfl rfl rfl NC (.there (.there (.there (.there (.there (.there .here))))))<|QE<|Qk ?_)
      refine FY (.there (.there (.there .here))) (fun w1 hw1=>⟨rfl,⟨s.k+1,De s.ms ⟨x42,(f+t0.t.1,p)⟩,by rw [htk];exact s.hI.add hpw hpl (by rw [hc0])⟩,rfl,?_⟩)
      rw [Mv hrec,← NI hvn s.ms ⟨x42,(f+t0.t.1,p)⟩ s.hI.wd hpl] at hw1
      exact St.imp hw1 (.cons _ (.cons _ (.cons _ subl_r))) (fun F h=>⟨h.1.1.1,h.1.1.2.1,fun e he=>by
       rcases BW he with rfl | he
       ·exact h.2
       ·exact h.1.1.2.2 e he⟩)
     ·cases hc
  letI:Df:=Hp D
  have hI:El (v+1).toNat s.ms (Q8 (JA (Jp a.2)) (JA (Jp b.2))):=by have h:=s.hI;rw [hs,List.take_length] at h;exact h
  refine Qk<|QC<|J_sr<|JS_as rfl<|JS_nt<|QG<|J_sr<|QA (Qo rfl DF (.there .here) (.here .nil))<|ET (kv:=Px s.ms) (K:=VP) rfl NC (.there (.there .here)) (fun b47=>JS_nt<|QX<|Jw (ι:=kZ s.ms) [(2,_),(47,_)] (fun i=>[(14,i.v)]) (fun i=>(b47,FD m (Px s.ms).length i.seen)::(D,.deferred (some []))::(b9,.cells [.map (some m)].toArray 152 (0,0))::(m,X5 VP (Px s.ms))::i.ob) (fun i F=>VY F i.os) (fun i=>s.ms.length - i.seen.length) (⟨[],[],_,0,[],.nil,List.nodup_nil,(fun _ h=>by cases h),rfl,rfl⟩) ⟨rfl,rfl,trivial⟩ ⟨rfl,trivial⟩ subl_r (fun _ _ _ h=>by cases h) (fun i=>?_))
  simp only [List.cons_append,List.nil_append]
  refine J_sr<|Np (kv:=Px s.ms) (K:=VP) (b:=m) rfl .here (.there (.there (.there .here))) (fun x hx=>QA (QK rfl (xE x))<|JS_nt<|QG ?_)
  refine QP rfl (fun hc=>?_) (fun hc=>?_)
  ·
   obtain ⟨j,rfl⟩:∃ j,x=some j:=by
    cases x with
    |none=>cases hc
    |some j=>exact⟨j,rfl⟩
   obtain ⟨hj,hjn⟩:=hx
   rw [FC] at hj
   obtain ⟨hs1,hs2,hs3⟩:=PV i.nd i.lt hj hjn
   have htm:=JN hj
   have hkj:(Px s.ms)[j]?=some (YB (el s.ms j).t.2,(el s.ms j).x.v):=by rw [Px,List.getElem?_map,List.getElem?_eq_getElem hj,ZA hj];rfl
   generalize hte:el s.ms j=t at htm hkj
   have htw:=hI.wd t htm
   have htp:=hI.pw t htm
   refine QO<|QC<|QX<|J_sr<|QA (Az (kv:=Px s.ms) (K:=VP) (p:=(YB t.t.2,t.x.v)) rfl .here (.there (.there (.there .here))) hkj)<|QA (QK rfl rfl)<|QA (QK rfl rfl)<|Qf Ai (fun b15=>Qf Xp (fun b16=>QQ (vs:=(YB t.t.2).1.map Qx) rfl rfl rfl Wy (KA _) (.there .here) (Rf (by rw [KA];rfl)) (Rm _)<|QQ (vs:=[_,_,_,_]) rfl rfl rfl Qe rfl .here (.here (.here (.here (.here .nil)))) ⟨rfl,rfl,rfl,rfl,trivial⟩<|JS_nt<|J_sr<|QA (QL (vs:=[_,_,_,_]) rfl Qe .here (.here (.here (.here (.here .nil)))) rfl)<|QH rfl (fun w F hF h9=>Gf hF (h9.1.2 t htm)) (fun _=>QA (QU rfl rfl rfl)<|QE<|QC ?_)))
   refine QP rfl (fun hc=>?_) (fun hc=>?_)
   ·
    have hnz:t.t.1≠0:=fun e=>by rw [e] at hc;cases hc
    refine No (b:=b15) (.there .here)<|JR (List.sublist_append_left [_,_,_,_,_] i.ob) mixed (by kernel_rfl)<|QM (QD rfl)<|QM (QL (vs:=[_,_,_,_]) rfl Qe .here (.here (.here (.here (.here .nil)))) rfl)<|QM (QD rfl)<|QM (Qp rfl rfl (by omega))<|QM (Uw (h:=(v+1).toNat) rfl (congrArg (fun z:Int=>some (Value.int .i64 z)) (by omega)) O9 Qs (by omega))<|Qg rfl (fun w F hF h9=>SI (r:=⟨some ⟨b15,0,none⟩,(v+1).toNat,25⟩) hF (Lu h9.2 htw (by omega)) (by rw [htw];omega)) (fun c61=>QM (Q6 rfl M4 Zb (.cons (vs:=[_,_,_,_]) rfl rfl rfl (.here (.here (.here (.here .nil)))) (.cons (vs:=[_]) rfl rfl rfl (.skip (.skip (.skip (.skip (.here .nil))))) .nil))) ?_)
    refine Jt rfl (Q7 J1) JZ Zb rfl rfl (fun b63=>?_) (fun w h=>h.imp (.cons_cons _ (.cons_cons _ (.cons_cons _ (.cons_cons _ (.cons_cons _ (List.nil_sublist _)))))) (fun F h=>h.1))
    refine UH (List.perm_append_comm (l₁:=[_,_,_,_,_])) ?_
    refine Dj (n:=i.n) (k:=1) (sz:=5) (news:=YY ⟨t.x,c61,t.t⟩) rfl rfl J1 JZ Zb rfl Ac i.hr (Src.row (off:=0) (fun F h9=>h9.2) (fun j v hv=>by rw [Nat.zero_add];show((YY ⟨t.x,c61,t.t⟩).toArray)[j]?=some v;rw [List.getElem?_toArray];exact hv) rfl) (by have:=i.bound;have:=hI.ln;omega) (by have:=i.bound;have:=hI.ln;omega) (Rp _) subl_r (fun _ h=>h.1.1) (fun v64 ob64 hr64=>?_)
    refine UH (List.perm_append_comm (l₂:=[_,_,_,_,_]))<|QM (QF rfl)<|Q9<|Qk ?_
    exact Ql (⟨i.seen++[j],i.os++[⟨t.x,c61,t.t⟩],v64,i.n+1,ob64,by rw [List.flatMap_append];simpa using hr64,hs1,hs2,by rw [List.length_append,i.hn];rfl,qQ hte hnz i.ho rfl⟩) (by show _ - (i.seen++[j]).length<_;rw [List.length_append];simp only [List.length_singleton];omega) ⟨rfl,rfl,rfl,trivial⟩ (.cons _ subl_r) (fun F ⟨⟨⟨⟨⟨⟨hG0,hMs⟩,hOs⟩,_⟩,hk15⟩,h61⟩,hs63⟩=>⟨⟨hG0,hMs⟩,fun o ho=>by
   rcases List.mem_append.1 ho with ho | ho
   ·exact hOs o ho
   ·rw [List.mem_singleton.1 ho];exact⟨hMs t htm,h61⟩⟩)
   ·
    have hz:t.t.1=0:=BN.1 (by simpa using hc)
    refine QO<|Qk ?_
    exact Ql (⟨i.seen++[j],i.os,i.v,i.n,i.ob,i.hr,hs1,hs2,i.hn,zR hte hz i.ho⟩) (by show _ - (i.seen++[j]).length<_;rw [List.length_append];simp only [List.length_singleton];omega) ⟨rfl,rfl,rfl,trivial⟩ (.cons _ (.cons _ subl_r)) (fun F h=>⟨h.1.1,h.1.2⟩)
  ·
   obtain rfl:x=none:=by
    cases x with
    |none=>rfl
    |some j=>cases hc
   rw [show uS (Px s.ms).length i.seen none=∀ j,j<(Px s.ms).length→j∈i.seen from rfl,FC] at hx
   refine Qy ?_
   repeat (first | refine QZ ?_ | refine QV (by rfl) ?_)
   refine Qa<|QC<|J_sr<|JS_mv rfl<|XL rfl (List.perm_append_comm (l₁:=[_,_,_,_]) (l₂:=i.ob)) (Lj O6 i.hr (fun F h=>h.2) (kZ.mem hI i) i.hn (by have:=i.bound;have:=hI.ln;omega)) (fun c=>JH _ (fun w F hF h=>h.2) (fun hso=>?_))
   have hmn:JG c.1=JQ (Q8 (JA (Jp a.2)) (JA (Jp b.2))):=OX hI i.nd i.lt hx i.ho hso.2.1 hso.2.2
   obtain ⟨r,hv2,hrn,hrc,hfix⟩:=Qz.fix (w0:=w) (F0:=F) (bs1:=[(b47,FD m (Px s.ms).length (vf i.seen none)),(D,.deferred (some [])),(b9,.cells [.map (some m)].toArray 152 (0,0)),(m,X5 VP (Px s.ms))]) (G:=_) hso.1
   refine X9 (List.perm_append_comm (l₁:=c.2))<|jc hfix ?_
   rw [hv2]
   refine JS_nt<|J_sr<|JS_mv rfl<|QH rfl (fun w F hF h9=>WY hF (q:=r.q) (n:=r.n) (cap:=r.cap) (ts:=c.1) ⟨by rw [hrn];exact h9.2,fun t ht=>h9.1.1.2 t (hso.2.1.mem_iff.1 ht),rfl,by rw [hrn];exact hrc,hso.2.1.length_eq.trans (i.hn.trans hrn.symm)⟩ (hgl _ h9.1.1.1.1) (Jz hmn hpn) (fun t htm=>Nat.le_trans (Hy (Jz hmn (fun x hx=>hx) t htm)) (by omega)) (by have:=congrArg List.length hmn;simp only [Yy] at this;omega)) (fun c68=>?_)
   rw [hmn]
   refine QA (QK rfl rfl)<|QA (QK rfl rfl)<|JS_as rfl<|JS_as rfl<|JS_nt<|QS<|ya (.there .here) ?_
   exact JX (c68) rfl (.tmp rfl (.tmp rfl .nil)) (by unfold yw;rw [if_pos hc0];rfl) (fun F h9=>by unfold yv;rw [if_pos hc0];exact h9.2)
end
section
open Go.RowKit Ig
theorem Fm:((Tryz.prog.fieldsOf 24).toList.map fun f=>(f.name,f.offset,f.type))=[("Low",0,22),("High",1,22)]:=by kernel_rfl
theorem Un:Tryz.prog.underlying 24=some (.struct (Tryz.prog.fieldsOf 24)):=by kernel_rfl
theorem Fl:Tryz.prog.stoodInHeld 24=false:=by kernel_rfl
theorem RQ:Tryz.prog.eqGuardType Tryz.prog.depth 24=false:=by kernel_rfl
theorem Aw:Tryz.prog.underlying 22=some .string:=by kernel_rfl
theorem Uf {α β:Type} {f:α→β} {l:List α} {x y:β} (h:l.map f=[x,y]):∃ a b,l=[a,b]∧f a=x∧f b=y:=by
 match l,h with
 |[a,b],h=>simp only [List.map_cons,List.map_nil,List.cons.injEq,and_true] at h;exact⟨a,b,rfl,h.1,h.2⟩
theorem equal_span (w:World) (a b c d:List UInt8):(Op.equal 24 (.agg #[tx a,tx b]) (.agg #[tx c,tx d])).run Tryz.prog w = .ok (decide (a=c)&&decide (b=d)) w:=by
 obtain ⟨f1,f2,hf,h1,h2⟩:=Uf Fm
 simp only [Prod.mk.injEq] at h1 h2
 exact equal_txs Un Fl hf ⟨by rw [h1.1];decide,h1.2.1,by rw [h1.2.2];exact Aw⟩ ⟨by rw [h2.1];decide,h2.2.1,by rw [h2.2.2];exact Aw⟩ w a b c d
section
variable [Dr] [df:Df] {N:Nat} {m:Sl} {S:World→Prop} {ty:TypeId}
theorem L5 {yT:TypeId} {x y:Operand} {a b c d:List UInt8} (hx:ev m x=some (.agg #[tx a,tx b])) (hy:ev m y=some (.agg #[tx c,tx d])):Qt Tryz.prog N m S (.binOp .neq 24 x y yT) ty (.bool (!(decide (a=c)&&decide (b=d)))):=fun ac w _ _ _ _ ha _=>by
 have h1:=equal_span w a b c d
 simp only [execOp,ha.ev hx,ha.ev hy,Sem.run_bind]
 have h2:(eqGuard .neq 24 x y (.agg #[tx a,tx b]) (.agg #[tx c,tx d])).run Tryz.prog w = .ok () w:=by
  simp [eqGuard,RQ]
 rw [h2]
 simp [binOp,h1]
end
end
section
open Go.RowKit Ig
def Hd (c:Rat×Rat) (bs:List (Rat×Rat)) (ks:List Int) (i:Nat):Rat×Rat:=(List.range i).foldl (fun a j=>if Qb ks j>0 then Vn a (Hk (el bs j) (Qb ks j)) else a) c
theorem DD (c:Rat×Rat) (bs:List (Rat×Rat)) (ks:List Int) (i:Nat):Hd c bs ks (i+1)=if Qb ks i>0 then Vn (Hd c bs ks i) (Hk (el bs i) (Qb ks i)) else Hd c bs ks i:=by
 unfold Hd;rw [List.range_succ,List.foldl_append];rfl
def CD (a b:Rat×Rat):Rat×Rat:=(a.1+b.1,a.2+b.2)
def ED (bs:List (Rat×Rat)) (l:List Tm):Rat×Rat:=l.foldl (fun a t=>CD a (Hd (t.1,t.1) bs t.2 t.2.length)) (0,0)
theorem AR {ts:List XT} {bs:List (Rat×Rat)} {i:Nat} (h:i<ts.length):ED bs (JG (ts.take (i+1)))=CD (ED bs (JG (ts.take i))) (Hd ((el ts i).t.1,(el ts i).t.1) bs (el ts i).t.2 (el ts i).t.2.length):=by
 rw [Xi h];unfold ED;rw [List.foldl_append];rfl
def Nn (a:Rat×Rat) (k:Nat):Prop:=JO a.1≤k∧JO a.2≤k
theorem Nn.mono {a:Rat×Rat} {k l:Nat} (h:Nn a k) (g:k≤l):Nn a l:=⟨Nat.le_trans h.1 g,Nat.le_trans h.2 g⟩
theorem EJ {r:Rat} {l:List Rat} {k:Nat} (h:JO r≤k) (hl:∀ x∈l,JO x≤k):Nn (Kz r l) k:=PL l (r,r) h h hl
theorem Ui {a b:Rat×Rat} {m n:Nat} (ha:Nn a m) (hb:Nn b n):Nn (Vn a b) (m+n):=by
 have h:∀ x y:Rat,JO x≤m→JO y≤n→JO (x*y)≤m+n:=fun x y h1 h2=>by have:=XJ x y;omega
 unfold Vn
 refine EJ (h _ _ ha.1 hb.1) fun x hx=>?_
 simp only [List.mem_cons,List.not_mem_nil,or_false] at hx
 rcases hx with rfl | rfl | rfl
 ·exact h _ _ ha.1 hb.2
 ·exact h _ _ ha.2 hb.1
 ·exact h _ _ ha.2 hb.2
theorem TE {a:Rat×Rat} {n:Int} {m:Nat} (ha:Nn a m) (hn:n≤12):Nn (Hk a n) (12*m+1):=by
 have h:∀ x:Rat,JO x≤m→JO (x^n.toNat)≤12*m+1:=fun x hx=>by
  have h1:=Wm x n.toNat
  have h2:n.toNat*JO x≤12*m:=Nat.mul_le_mul (by omega) hx
  omega
 have hs:Nn (Kz (a.1^n.toNat) [a.2^n.toNat]) (12*m+1):=EJ (h _ ha.1) fun x hx=>by
  simp only [List.mem_cons,List.not_mem_nil,or_false] at hx
  rw [hx];exact h _ ha.2
 refine⟨?_,hs.2⟩
 unfold Hk
 dsimp only
 split
 ·have:JO (0:Rat)≤1:=by decide
  omega
 ·exact hs.1
theorem jX {a b:Rat×Rat} {m n:Nat} (ha:Nn a m) (hb:Nn b n):Nn (CD a b) (m+n+1):=by
 have h1:=Vc a.1 b.1
 have h2:=Vc a.2 b.2
 have h3:=ha.1
 have h4:=ha.2
 have h5:=hb.1
 have h6:=hb.2
 exact⟨by show JO (a.1+b.1)≤_;omega,by show JO (a.2+b.2)≤_;omega⟩
theorem Ct {c:Rat×Rat} {bs:List (Rat×Rat)} {ks:List Int} (hc:Nn c 2400) (hx:∀ x∈bs,Nn x 2400) (hk:∀ k∈ks,0≤k∧k≤12):∀ i,i≤bs.length→i≤ks.length→Nn (Hd c bs ks i) (2400+i*28801):=by
 intro i
 induction i with
 |zero=>intro _ _;simpa [Hd] using hc
 |succ i ih =>
  intro h1 h2
  have h3:=ih (by omega) (by omega)
  have h6:=hx _ (JN (show i<bs.length by omega))
  have h7:0≤Qb ks i∧Qb ks i≤12:=by rw [Xx (show i<ks.length by omega)];exact hk _ (JN (by omega))
  rw [DD]
  split
  ·exact(Ui h3 (TE h6 h7.2)).mono (by omega)
  ·exact h3.mono (by omega)
theorem Tv {bs:List (Rat×Rat)} {B:Nat}:∀ (l:List Tm) (a:Rat×Rat) (k:Nat),Nn a k→(∀ t∈l,Nn (Hd (t.1,t.1) bs t.2 t.2.length) B)→Nn (l.foldl (fun a t=>CD a (Hd (t.1,t.1) bs t.2 t.2.length)) a) (k+l.length*(B+1))
 |[],a,k,h,_=>by simpa using h
 |t::l,a,k,h,hl=>by
  have h1:=Tv l (CD a (Hd (t.1,t.1) bs t.2 t.2.length)) _ (jX h (hl t (by simp))) fun t ht=>hl t (by simp [ht])
  rw [List.foldl_cons,List.length_cons,Nat.add_mul]
  exact h1.mono (by omega)
def Yn (s:List UInt8×List UInt8):Rat×Rat:=(Jk s.1,Jk s.2)
def yA (p:Pt) (ss:List (List UInt8×List UInt8)):(List UInt8×List UInt8)×Int :=
 if DB p ss.length=0 then(if Qm (ss.map fun s=>XD s.1 s.2)=0 then V6 (ED (ss.map Yn) (JA p)) else(([],[]),Qm (ss.map fun s=>XD s.1 s.2))) else(([],[]),DB p ss.length)
structure EsO (n:Nat) where
 i:Nat
 x:Sp
 le:i≤n
structure EsI (n:Nat) where
 j:Nat
 y:Sp
 le:j≤n
theorem IU {ss:List (List UInt8×List UInt8)} {j:Nat} (h:j<ss.length):el (ss.map Yn) j=Yn (el ss j):=by rw [ZA (by simpa using h),ZA h];simp
def xy (x:Sp):List Value:=UR x.lo++UR x.hi
theorem Ty {w:World} {F:Gs} {a:Yw} {q:Option Addr} {n cap:Nat} {ss:List (List UInt8×List UInt8)} (hF:Fits F w) (hGl:JC F) (hR:Q4 F a.1.q a.1.n 2 (a.2.flatMap KU)) (hA:Zl F a.2) (ht:VB a) (hS:Q4 F q n 2 (ss.flatMap Ss)) (hn:ss.length=n) (hl:∀ s∈ss,s.1.length≤1000000∧s.2.length≤1000000) (hnb:n≤1000000) :
  Qc Tryz.prog 81 [a.1.v,.slice q n cap] w F (.tuple #[.agg #[tx (yA (Jp a.2) ss).1.1,tx (yA (Jp a.2) ss).1.2],.int .i64 (yA (Jp a.2) ss).2]):=by
 dsimp only [Sr.v]
 refine QT.intro (G:=fun F=>JC F∧Q4 F a.1.q a.1.n 2 (a.2.flatMap KU)∧Zl F a.2∧Q4 F q n 2 (ss.flatMap Ss)) Tryz.func81 rfl (by rfl) rfl rfl hF (fun F' hF'=>⟨hGl.le hF',hR.le hF',hA.le hF',hS.le hF'⟩)<|QG<|QB ?_
 refine Qf Yk (fun b4=>?_)
 refine JS_as rfl<|JS_nt<|QG<|J_sr<|JS_mv rfl<|JS_mv rfl<|QA (Qi rfl Sv) ?_
 refine QH rfl (fun w F hF h9=>A3 hF (h9.1) (h9.2.1) (h9.2.2.1) (ht) (hnb)) (fun _=>?_)
 refine JS_as rfl<|JS_nt<|J_sr<|JS_mv rfl<|QA (QU rfl rfl rfl)<|QE<|QC ?_
 refine QP rfl (fun hc=>?_) (fun hc=>?_)
 ·
  have hc0:=bne_iff_ne.1 hc
  refine J_sr<|QA (Q6 rfl KI Yk .nil)<|JS_mv rfl<|QQ (vs:=[_,_]) rfl rfl rfl Js rfl .here (.here (.here .nil)) ⟨rfl,rfl,trivial⟩<|JS_as rfl<|JS_nt<|QS ?_
  exact JX (()) rfl (.Jc (c:=[_,_]) rfl Js .here (.tmp rfl .nil)) (by unfold yA;rw [hn,if_neg hc0];rfl) (fun F h9=>trivial)
 ·
  have hc0:=bne_eq_false_iff_eq.1 hc
  have hpl:Qm [if decide ((n:Int)=0)=true then 2 else 0,if decide ((n:Int)>25)=true then 5 else 0]=0∧XF (Jp a.2) ((n:Int) - 1)=0:=by
   unfold DB at hc0
   by_cases g:Qm [if decide ((n:Int)=0)=true then 2 else 0,if decide ((n:Int)>25)=true then 5 else 0]=0
   ·rw [if_pos g] at hc0;exact⟨g,hc0⟩
   ·rw [if_neg g] at hc0;exact absurd hc0 g
  have hn1:=UK hpl.1
  have oa:=KE hpl.2
  refine QO<|QC<|QG<|J_sr<|JS_mv rfl ?_
  refine QH rfl (fun w F hF ⟨⟨hGl,hR,hA,hS⟩,_⟩=>AS (f:=22) (es:=ss.map fun s=>XD s.1 s.2) (vs:=fun i=>Ss (el ss i)) (c1:=[]) (c2:=[]) (G0:=JC) hF (fun F F' hle h=>h.le hle) hGl hS (by rw [List.length_map];exact hn) (by omega)
   (fun i hi=>⟨rfl,fun j v hv=>J2 (f:=Ss) (l:=ss) (fun _=>rfl) (by omega) hv⟩)
   (fun i hi v hv=>by
    unfold Ss at hv
    simp only [List.mem_cons,List.not_mem_nil,or_false] at hv
    rcases hv with rfl | rfl<;>rfl)
   (fun i hi w F hF hG=>by
    rw [List.getElem_map,← ZA (show i<ss.length by simpa using hi)]
    exact KN hF hG (hl _ (JN (show i<ss.length by simpa using hi))))) (fun _=>?_)
  refine JS_as rfl<|JS_nt<|J_sr<|JS_mv rfl<|QA (QU rfl rfl rfl)<|QE<|QC ?_
  refine QP rfl (fun hc=>?_) (fun hc=>?_)
  ·
   have hd0:=bne_iff_ne.1 hc
   refine J_sr<|QA (Q6 rfl KI Yk .nil)<|JS_mv rfl<|QQ (vs:=[_,_]) rfl rfl rfl Js rfl .here (.here (.here .nil)) ⟨rfl,rfl,trivial⟩<|JS_as rfl<|JS_nt<|QS ?_
   exact JX (()) rfl (.Jc (c:=[_,_]) rfl Js .here (.tmp rfl .nil)) (by unfold yA;rw [hn,if_pos hc0,if_neg hd0];rfl) (fun F h9=>trivial)
  ·
   have hd0:=bne_eq_false_iff_eq.1 hc
   have hcs:∀ s∈ss,XD s.1 s.2=0:=fun s hs=>R9 hd0 _ (List.mem_map.2 ⟨s,hs,rfl⟩)
   have hss:∀ s∈ss,Nn (Yn s) 2400:=fun s hs=>by
    have h3:=Yv (hcs s hs)
    exact⟨XR h3.1,XR h3.2.1⟩
   have hxs:∀ x∈ss.map Yn,Nn x 2400:=fun x hx=>by
    obtain ⟨s,hs,rfl⟩:=List.mem_map.1 hx
    exact hss s hs
   have hpa:∀ t∈JA (Jp a.2),PW t.2:=oa.pw (by omega)
   have hpk:∀ t∈JA (Jp a.2),∀ k∈t.2,0≤k∧k≤12:=fun t ht=>by
    unfold JA at ht
    obtain ⟨x,hx,rfl⟩:=List.mem_map.1 ht
    exact(Z8 (oa.term x hx)).2.1
   have hwd:∀ t∈JA (Jp a.2),t.2.length=n:=fun t ht=>by have:=oa.wide t ht;omega
   have la:(JA (Jp a.2)).length≤64:=by unfold JA;rw [List.length_map];exact oa.len
   have hsl2:(ss.map Yn).length=n:=by rw [List.length_map];exact hn
   have hvm:∀ t∈JA (Jp a.2),∀ i,i≤n→Nn (Hd (t.1,t.1) (ss.map Yn) t.2 i) 722425:=fun t ht i hi=>by
    have h1:=Ct (c:=(t.1,t.1)) ⟨oa.sz t ht,oa.sz t ht⟩ hxs (hpk t ht) i (by omega) (by rw [hwd t ht];exact hi)
    have h2:i*28801≤25*28801:=Nat.mul_le_mul_right _ (by omega)
    exact h1.mono (by omega)
   have hev:∀ l:List Tm,(∀ t∈l,t∈JA (Jp a.2))→l.length≤64→Nn (ED (ss.map Yn) l) 50000000:=fun l hl h64=>by
    have h1:=Tv (bs:=ss.map Yn) (B:=722425) l (0,0) 1 ⟨by decide,by decide⟩ fun t ht=>hvm t (hl t ht) _ (Nat.le_of_eq (hwd t (hl t ht)))
    have h3:l.length*722426≤64*722426:=Nat.mul_le_mul_right _ h64
    unfold ED
    exact h1.mono (by omega)
   refine QO<|QC<|QG<|QB ?_
   refine QH rfl (fun w F hF h9=>dK hF (by omega) (by omega)) (fun x28=>?_)
   refine QH rfl (fun w F hF ⟨⟨⟨⟨hGl,hR,hA,hS⟩,_⟩,_⟩,⟨h28,h28_⟩⟩=>KO hF (x:=x28) (ps:=[]) ⟨by assumption,by assumption⟩ (Q4.nil F _ _) (fun p hp=>absurd hp (List.not_mem_nil)) rfl (by omega) ⟨by decide,fun p hp=>absurd hp (List.not_mem_nil)⟩) (fun c29=>?_)
   refine Qf Y0 (fun b8=>?_)
   refine QQ (vs:=[_,_,_,_,_,_,_,_]) rfl rfl rfl XG rfl .here (.here (.here (.here (.here (.here (.here (.here (.here .nil)))))))) ⟨rfl,rfl,rfl,rfl,rfl,rfl,rfl,rfl,trivial⟩<|JS_nt<|QG<|J_sr<|JS_mv rfl ?_
   refine QH rfl (fun w F hF h9=>KV hF h9.1.1.1.1.1 (a:=a) h9.1.1.1.1.2.1 h9.1.1.1.1.2.2.1 ht oa (by omega)) (fun c31=>?_)
   refine JH _ (fun w F hF h=>And.intro h.2.2.2.1 (And.intro h.2.len (And.intro h.2.2.2.2.2 (fun t ht=>(h.2.2.1 t ht).2.2.1)))) (fun h31p=>?_)
   obtain ⟨e31,l31,m31,r31⟩:=h31p
   have hsub:∀ k,∀ t∈JG (c31.2.take k),t∈JA (Jp a.2):=fun k t ht=>by
    rw [← e31]
    unfold JG at ht ⊢
    obtain ⟨y,hy,rfl⟩:=List.mem_map.1 ht
    exact List.mem_map_of_mem (List.mem_of_mem_take hy)
   refine QA (Qi rfl J1)<|JS_mv rfl<|JS_nt<|QX ?_
   refine Jw (ι:=EsO c31.2.length) [(1,_),(4,_),(8,_),(31,_),(32,_)] (fun i=>[(33,.int .i64 ((i.i:Nat):Int))]) (fun i=>[(b8,.cells (xy i.x).toArray 138 (0,0)),(b4,.cells [tx [],tx []].toArray 24 (0,0))]) (fun i F=>ZP F i.x (ED (ss.map Yn) (JG (c31.2.take i.i)))) (fun i=>c31.2.length - i.i) (⟨0,c29,Nat.zero_le _⟩) ⟨rfl,rfl,rfl,rfl,rfl,trivial⟩ ⟨rfl,trivial⟩ subl_r (fun _ h=>h.1.2) (fun i=>?_)
   simp only [List.cons_append,List.nil_append]
   have hi:=i.le
   have hes:=hev (JG (c31.2.take i.i)) (fun t ht=>hsub _ t ht) (by rw [Yy,List.length_take];omega)
   refine J_sr<|QA (QU rfl rfl rfl)<|JS_nt<|QG ?_
   refine QP rfl (fun hc=>?_) (fun hc=>?_)
   ·
    have hlt:i.i<c31.2.length:=by have:=dec_t hc;omega
    have htm:=JN hlt
    have htA:(el c31.2 i.i).t∈JA (Jp a.2):=e31 ▸ List.mem_map_of_mem htm
    have hw1:=hwd _ htA
    have hpw:=hpa _ htA
    have hl1000:=hpw.2
    have hrl:=r31 _ htm
    have hct:=oa.sz _ htA
    refine QO<|QC<|QG<|QX<|J_sr<|QA (JK (n:=c31.1.n) (i.i) (fun F h9=>(h9.1.2).1) rfl rfl J1 JZ (by omega))<|QA (Xq (n:=c31.1.n) (vs:=[.int .i64 (el c31.2 (i.i)).x.n.s,.slice (el c31.2 (i.i)).x.n.q (el c31.2 (i.i)).x.n.n (el c31.2 (i.i)).x.n.cap,.int .i64 (el c31.2 (i.i)).x.d.s,.slice (el c31.2 (i.i)).x.d.q (el c31.2 (i.i)).x.d.n (el c31.2 (i.i)).x.d.cap,.slice (el c31.2 (i.i)).r.q (el c31.2 (i.i)).r.n (el c31.2 (i.i)).r.cap]) ((i.i)*5) (fun F h9=>(h9.1.2).1) (by omega) rfl JZ rfl (fun j v hv=>J2 (f:=YY) (l:=c31.2) YE (by omega) hv)) ?_
    refine Qf Zb (fun b10=>?_)
    refine QQ (vs:=[_,_,_,_,_]) rfl rfl rfl JZ rfl .here (.here (.here (.here (.here (.here .nil))))) ⟨rfl,rfl,rfl,rfl,rfl,trivial⟩<|JS_nt<|J_sr<|QA (QI rfl Zm Qe)<|QA (QL (vs:=[_,_,_,_]) rfl Qe .here (.here (.here (.here (.here .nil)))) rfl) ?_
    refine QH rfl (fun w F hF h9=>KO hF (x:=(el c31.2 i.i).x) (ps:=[]) ((h9.1.2.2.1 _ htm).1) (Q4.nil F _ _) (fun p hp=>absurd hp (List.not_mem_nil)) rfl (by omega) ⟨by omega,fun p hp=>absurd hp (List.not_mem_nil)⟩) (fun c39=>?_)
    refine Qf Y0 (fun b11=>?_)
    refine QQ (vs:=[_,_,_,_,_,_,_,_]) rfl rfl rfl XG rfl .here (.here (.here (.here (.here (.here (.here (.here (.here .nil)))))))) ⟨rfl,rfl,rfl,rfl,rfl,rfl,rfl,rfl,trivial⟩<|JS_nt<|QG<|J_sr<|QA (QI rfl X1 Qv)<|QA (Qo rfl Qv (.there .here) (.skip (.skip (.skip (.skip (.here .nil))))))<|QA (Qi rfl Qd)<|JS_mv rfl<|JS_nt<|QX ?_
    refine Jw (ι:=EsI (el c31.2 i.i).t.2.length) [(1,_),(4,_),(8,_),(11,_),(31,_),(32,_),(33,_),(41,_),(42,_)] (fun i2=>[(43,.int .i64 ((i2.j:Nat):Int))]) (fun i2=>[(b11,.cells (xy i2.y).toArray 138 (0,0)),(b10,.cells (YY (el c31.2 i.i)).toArray 165 (0,0)),(b8,.cells (xy i.x).toArray 138 (0,0)),(b4,.cells [tx [],tx []].toArray 24 (0,0))]) (fun i2 F=>ZP F i2.y (Hd ((el c31.2 i.i).t.1,(el c31.2 i.i).t.1) (ss.map Yn) (el c31.2 i.i).t.2 i2.j)) (fun i2=>(el c31.2 i.i).t.2.length - i2.j) (⟨0,c39,Nat.zero_le _⟩) ⟨rfl,rfl,rfl,rfl,rfl,rfl,rfl,rfl,rfl,trivial⟩ ⟨rfl,trivial⟩ subl_r (fun _ h=>h.2) (fun i2=>?_)
    simp only [List.cons_append,List.nil_append]
    have hj:=i2.le
    have hvs:=hvm _ htA i2.j (by omega)
    refine J_sr<|QA (QU rfl rfl rfl)<|JS_nt<|QG ?_
    refine QP rfl (fun hc=>?_) (fun hc=>?_)
    ·
     have hlt2:i2.j<(el c31.2 i.i).t.2.length:=by have:=dec_t hc;omega
     have hls:i2.j<ss.length:=by omega
     have hem:=JN hls
     have hck:=Yv (hcs _ hem)
     have hlh:=hl _ hem
     have hbx:=hss _ hem
     have hk12:0≤Qb (el c31.2 i.i).t.2 i2.j∧Qb (el c31.2 i.i).t.2 i2.j≤12:=by rw [Xx hlt2];exact hpk _ htA _ (JN hlt2)
     have hpz:=TE hbx hk12.2
     refine QO<|QC<|QG<|QX<|J_sr<|JS_mv rfl<|QA (JK (n:=(el c31.2 i.i).r.n) (i2.j) (fun F h9=>((h9.1.1.1.2.2.1 _ htm).2).1) rfl rfl Qd Qs (by omega))<|QA (JM (n:=(el c31.2 i.i).r.n) ((i2.j)*1) (fun F h9=>((h9.1.1.1.2.2.1 _ htm).2).1) (by omega) rfl Qs (JJ (o:=(el c31.2 i.i).t.2) (by omega)))<|JS_as rfl<|JS_as rfl<|JS_nt<|J_sr<|JS_mv rfl<|QA (QU rfl rfl rfl)<|QE<|QC ?_
     refine QP rfl (fun hc=>?_) (fun hc=>?_)
     ·
      have hpos:Qb (el c31.2 i.i).t.2 i2.j>0:=dec_t hc
      refine Xo 9 subl_r mixed (by kernel_rfl) (by kernel_rfl) ?_
      simp only [List.take_succ_cons,List.take_zero,List.drop_succ_cons,List.drop_zero]
      refine QM (QL (vs:=[_,_,_,_,_,_,_,_]) rfl XG .here (.here (.here (.here (.here (.here (.here (.here (.here .nil)))))))) rfl)<|QM (QD rfl)<|QM (QD rfl)<|QM (JK (n:=n) (i2.j) (fun F h9=>h9.1.1.1.1.1.1.1.1.2.2.2) rfl rfl Sv Js (by omega))<|QM (Xq (n:=n) (vs:=[tx (el ss (i2.j)).1,tx (el ss (i2.j)).2]) ((i2.j)*2) (fun F h9=>h9.1.1.1.1.1.1.1.1.2.2.2) (by omega) rfl Js rfl (fun j v hv=>J2 (f:=Ss) (l:=ss) (fun _=>rfl) (by omega) hv)) ?_
      refine Qg rfl (fun w F hF h9=>M6 hF h9.1.1.1.1.1.1.1.1.1 hck.1 hck.2.1 hlh) (fun c55=>?_)
      refine QM (QD rfl) ?_
      refine Qg rfl (fun w F hF h9=>Sq (x:=c55) (a:=Yn (el ss i2.j)) (n:=Qb (el c31.2 i.i).t.2 i2.j) hF h9.2 hk12 ⟨Nat.le_trans hbx.1 (by decide),Nat.le_trans hbx.2 (by decide)⟩) (fun c57=>?_)
      refine Qg rfl (fun w F hF h9=>Sn (x:=i2.y) (y:=c57) hF h9.1.1.2 h9.2 ⟨Nat.le_trans hvs.1 (by omega),Nat.le_trans hvs.2 (by omega)⟩ ⟨Nat.le_trans hpz.1 (by decide),Nat.le_trans hpz.2 (by decide)⟩) (fun c58=>?_)
      refine K6<|QQ (vs:=[_,_,_,_,_,_,_,_]) rfl rfl rfl XG rfl .here (.here (.here (.here (.here (.here (.here (.here (.here .nil)))))))) ⟨rfl,rfl,rfl,rfl,rfl,rfl,rfl,rfl,trivial⟩<|QE<|Qk<|QC<|QB<|QA (Qp rfl rfl (by omega))<|JS_mv rfl<|QE ?_
      exact Ql (⟨i2.j+1,c58,hlt2⟩) (by show(el c31.2 i.i).t.2.length - (i2.j+1)<(el c31.2 i.i).t.2.length - i2.j;omega) ⟨rfl,rfl,rfl,rfl,rfl,rfl,rfl,rfl,rfl,rfl,trivial⟩ subl_r (fun F h9=>⟨h9.1.1.1.1,by show ZP F c58 (Hd _ (ss.map Yn) _ (i2.j+1));rw [DD,if_pos hpos,IU hls];exact h9.2⟩)
     ·
      have hpos:¬ Qb (el c31.2 i.i).t.2 i2.j>0:=dec_f hc
      refine QO<|Qk<|QC<|QB<|QA (Qp rfl rfl (by omega))<|JS_mv rfl<|QE ?_
      exact Ql (⟨i2.j+1,i2.y,hlt2⟩) (by show(el c31.2 i.i).t.2.length - (i2.j+1)<(el c31.2 i.i).t.2.length - i2.j;omega) ⟨rfl,rfl,rfl,rfl,rfl,rfl,rfl,rfl,rfl,rfl,trivial⟩ subl_r (fun F h9=>⟨h9.1,by show ZP F i2.y (Hd _ (ss.map Yn) _ (i2.j+1));rw [DD,if_neg hpos];exact h9.2⟩)
    ·
     have hge2:i2.j=(el c31.2 i.i).t.2.length:=by have:=dec_f hc;omega
     refine Qy ?_
     repeat (first | refine QZ ?_ | refine QV (by rfl) ?_)
     refine Qa<|QC<|QB<|QA (QL (vs:=[_,_,_,_,_,_,_,_]) rfl XG (.there (.there .here)) (.here (.here (.here (.here (.here (.here (.here (.here .nil)))))))) rfl)<|QA (QL (vs:=[_,_,_,_,_,_,_,_]) rfl XG .here (.here (.here (.here (.here (.here (.here (.here (.here .nil)))))))) rfl) ?_
     refine QH rfl (fun w F hF h9=>C0 (x:=i.x) (y:=i2.y) hF h9.1.1.2 h9.2 ⟨Nat.le_trans hes.1 (by decide),Nat.le_trans hes.2 (by decide)⟩ ⟨Nat.le_trans hvs.1 (by omega),Nat.le_trans hvs.2 (by omega)⟩) (fun c62=>?_)
     refine QQ (vs:=[_,_,_,_,_,_,_,_]) rfl rfl rfl XG rfl (.there (.there .here)) (.here (.here (.here (.here (.here (.here (.here (.here .nil)))))))) ⟨rfl,rfl,rfl,rfl,rfl,rfl,rfl,rfl,trivial⟩<|QE<|Qk<|QC<|QB<|QA (Qp rfl rfl (by omega))<|JS_mv rfl<|QE ?_
     exact Ql (⟨i.i+1,c62,hlt⟩) (by show c31.2.length - (i.i+1)<c31.2.length - i.i;omega) ⟨rfl,rfl,rfl,rfl,rfl,rfl,trivial⟩ (.cons _ (.cons _ subl_r)) (fun F h9=>⟨h9.1.1.1.1,by show ZP F c62 (ED _ (JG (c31.2.take (i.i+1))));rw [AR hlt,← hge2];exact h9.2⟩)
   ·
    have hge:i.i=c31.2.length:=by have:=dec_f hc;omega
    refine Qy ?_
    repeat (first | refine QZ ?_ | refine QV (by rfl) ?_)
    refine Qa<|QC<|J_sr<|QA (QL (vs:=[_,_,_,_,_,_,_,_]) rfl XG .here (.here (.here (.here (.here (.here (.here (.here (.here .nil)))))))) rfl) ?_
    refine QH rfl (fun w F hF h9=>Es hF h9.1.1.1.1.1.1.1 (x:=i.x) h9.2 ⟨Nat.le_trans hes.1 (by decide),Nat.le_trans hes.2 (by decide)⟩) (fun _=>?_)
    rw [hge,List.take_length,e31]
    refine QA (QK rfl rfl)<|QA (QK rfl rfl)<|QQ (vs:=[_,_]) rfl rfl rfl Js rfl (.there .here) (.here (.here .nil)) ⟨rfl,rfl,trivial⟩<|JS_as rfl<|JS_nt<|QS ?_
    exact JX (()) rfl (.Jc (c:=[_,_]) rfl Js (.there .here) (.tmp rfl .nil)) (by unfold yA;rw [hn,if_pos hc0,if_pos hd0];rfl) (fun F h9=>trivial)
end
section
open Go.RowKit Ig
def Yu (f:List UInt8) (b:Nat) (k:List Int):Vr:=⟨f,⟨some ⟨b,0,none⟩,k.length,k.length⟩,k⟩
def MY (b:Nat) (ts:List Vr):Yw:=(⟨some ⟨b,0,none⟩,ts.length,ts.length⟩,ts)
theorem J5 {F:Gs} {b:Nat} {k:List Int} {T:TypeId} (h:F b=some ((k.map Qx).toArray,T)):JL F ⟨some ⟨b,0,none⟩,k.length,k.length⟩ k:=⟨Q4.of h (by simp),rfl,Nat.le_refl _⟩
theorem Ob {b:Nat} {ts:List Vr} (h:∀ t∈ts,t.f.length≤1000000∧t.k.length≤1000000) (hl:ts.length≤1000000):VB (MY b ts):=⟨rfl,h,hl⟩
theorem ZR.I8 {F:Gs} {s:Sr} {ts:List Vr} {p:Pt} (h:ZR F s ts p) (hp:∀ e∈p,e.1.length≤1000000∧e.2.length≤1000000) (hl:p.length≤1000000):VB (s,ts):=by
 refine⟨h.2.2.2.2,fun t ht=>?_,?_⟩
 ·have:(t.f,t.k)∈Jp ts:=List.mem_map.2 ⟨t,ht,rfl⟩
  rw [h.2.2.1] at this
  exact hp _ this
 ·have:=congrArg List.length h.2.2.1
  simp only [Jp,List.length_map] at this
  show ts.length≤_
  omega
theorem Ny {w:World} {F:Gs} {a b:Yw} {v:Int} {P Q R:Pt} (hF:Fits F w) (hGl:JC F) (hA:Z9 F [a,b]) (ht:∀ e∈[a,b],VB e) (hP:Jp a.2=P) (hQ:Jp b.2=Q) (hc:ZM v=0) (h1:XF P v=0) (h2:XF Q v=0) (h3:WZ (JQ (Q8 (JA P) (JA Q)))=0) (h4:Gr (JQ (Q8 (JA P) (JA Q)))=R) :
  QT Tryz.prog 40 [a.1.v,b.1.v,.int .i64 v] w F (fun(c:Yw)=>.tuple #[c.1.v,.int .i64 0]) (fun c F=>ZR F c.1 c.2 R):=by
 have h:=IC hF hGl hA ht (v:=v)
 have e:Vq [a,b] v=0:=by simp [Vq,hc,hP,hQ,h1,h2,Qm]
 rw [yw,yv,if_pos e,if_pos e,hP,hQ,h3,h4] at h
 exact h
theorem Nb {w:World} {F:Gs} {a:Yw} {n v:Int} {P R:Pt} (hF:Fits F w) (hGl:JC F) (hA:Z9 F [a]) (ht:∀ e∈[a],VB e) (hP:Jp a.2=P) (hc:ZM n=0) (h1:XF P n=0) (hv:vE v n=0) (h3:WZ (JQ (YC v.toNat (JA P)))=0) (h4:Gr (JQ (YC v.toNat (JA P)))=R) :
  QT Tryz.prog 41 [a.1.v,.int .i64 n,.int .i64 v] w F (fun(c:Yw)=>.tuple #[c.1.v,.int .i64 0]) (fun c F=>ZR F c.1 c.2 R):=by
 have h:=SE hF hGl hA ht (n:=n) (v:=v)
 have e:Qm [Vq [a] n,vE v n]=0:=by simp [Vq,hc,hP,h1,hv,Qm]
 rw [kS,kR,if_pos e,if_pos e,hP,h3,h4] at h
 exact h
theorem T7 {w:World} {F:Gs} {a:Yw} {q:Option Addr} {n cap:Nat} {ls:List Yw} {v u:Int} {P R:Pt} {Ws:List Pt} (hF:Fits F w) (hGl:JC F) (hA:Z9 F [a]) (hta:VB a) (hR:Q4 F q n 1 (ls.map fun e=>e.1.v)) (hL:Z9 F ls) (hn:ls.length=n) (ht:∀ e∈ls,VB e) (hP:Jp a.2=P) (hW:(ls.map fun e=>Jp e.2)=Ws)
  (hv:0≤v∧v≤24) (hu:0≤u∧u≤24) (ha:XF P v=0) (hnv:(n:Int)=v+1) (hall:Qm (Ws.map fun e=>XF e u)=0) (ho:Fa (Ws.map JA) (u+1).toNat (JA P)) (h3:WZ (WS (Ws.map JA) (u+1).toNat (JA P))=0) (h4:Gr (WS (Ws.map JA) (u+1).toNat (JA P))=R) :
  QT Tryz.prog 44 [a.1.v,.int .i64 v,.slice q n cap,.int .i64 u] w F (fun(c:Yw)=>.tuple #[c.1.v,.int .i64 0]) (fun c F=>ZR F c.1 c.2 R):=by
 have e1:Aj ls=Ws.map JA:=by rw [← hW,List.map_map];rfl
 have e2:Vq ls u=0:=by
  unfold Vq
  rw [if_pos ((Yd u).2 hu),← hall,← hW,List.map_map];rfl
 have h:=Ih hF hGl hA hta hR hL hn ht hv hu (by rw [hP];exact ha) hnv e2 (by rw [e1,hP];exact ho) (q:=q) (cap:=cap)
 rw [e1,hP,h3,h4] at h
 exact h
end
section
open Go.RowKit Ig
structure Bd (p:List Tm) (k c z:Nat) (d:Int):Prop where
 can:Canon p
 wd:Zc k p
 nn:∀ t∈p,(∀ x∈t.2,0≤x)∧t.2.sum≤d
 ln:p.length≤c
 sz:∀ t∈p,JO t.1≤z
theorem N5:∀ {l:List Int},(∀ x∈l,0≤x)→0≤l.sum
 |[],_=>Int.le_refl _
 |a::l,h=>by
  have h1:=N5 (l:=l) fun x hx=>h x (List.mem_cons_of_mem _ hx)
  have h2:=h a List.mem_cons_self
  rw [List.sum_cons];omega
theorem PT:∀ k,(List.replicate k (0:Int)).sum=0
 |0=>rfl
 |k+1=>by rw [List.replicate_succ,List.sum_cons,PT k];rfl
theorem AJ {l:List Int} (h:∀ x∈l,0≤x):∀ x∈l,x≤l.sum:=by
 induction l with
 |nil=>intro x hx;cases hx
 |cons a l ih =>
  intro x hx
  have h0:0≤l.sum:=N5 (fun y hy=>h y (List.mem_cons_of_mem _ hy))
  have ha:=h a List.mem_cons_self
  rw [List.sum_cons]
  rcases List.mem_cons.1 hx with rfl | hx
  ·omega
  ·have:=ih (fun y hy=>h y (List.mem_cons_of_mem _ hy)) x hx;omega
theorem Bd.pw {p:List Tm} {k c z:Nat} {d:Int} (h:Bd p k c z d) (hk:k≤1000) (hd:d≤1000000):∀ t∈p,PW t.2:=fun t ht=>by
 obtain ⟨h1,h2⟩:=h.nn t ht
 exact⟨fun x hx=>⟨h1 x hx,by have:=AJ h1 x hx;omega⟩,by rw [h.wd t ht];exact hk⟩
theorem Bd.mono {p:List Tm} {k c z c' z':Nat} {d d':Int} (h:Bd p k c z d) (hc:c≤c') (hz:z≤z') (hd:d≤d'):Bd p k c' z' d' :=
 ⟨h.can,h.wd,fun t ht=>⟨(h.nn t ht).1,Int.le_trans (h.nn t ht).2 hd⟩,Nat.le_trans h.ln hc,fun t ht=>Nat.le_trans (h.sz t ht) hz⟩
theorem GG {q:List Tm} (hq:Canon q) {z:Nat} (hz:∀ t∈q,JO t.1≤z) (h1:1≤z) (x:List Int):JO (Jf q x)≤z:=by
 by_cases h:∃ t∈q,t.2=x
 ·obtain ⟨t,ht,rfl⟩:=h
  rw [WT hq ht];exact hz t ht
 ·rw [Y7 fun t ht e=>h ⟨t,ht,e⟩]
  exact Nat.le_trans (by decide) h1
theorem Bu {n z1 z2:Nat} {q:List Tm} (hq:Canon q) (hwq:Zc n q) (hz:∀ t∈q,JO t.1≤z2) (h1:1≤z2) (x:List Int):∀ (p:List Tm),Zc n p→(∀ t∈p,JO t.1≤z1)→JO (Jf (Q8 p q) x)≤p.length*(z1+z2+1)+1
 |[],_,_=>by show JO (0:Rat)≤_;exact Nat.le_trans (by decide) (Nat.le_add_left 1 _)
 |s::p,hw,hs=>by
  have ih:=Bu hq hwq hz h1 x p hw.tail fun t ht=>hs t (List.mem_cons_of_mem _ ht)
  rw [Xb,Zv,EI (hw s List.mem_cons_self) hwq,List.length_cons,Nat.add_mul,Nat.one_mul]
  split
  ·have h2:=Vc (s.1*Jf q (Um x s.2)) (Jf (Q8 p q) x)
   have h3:=XJ s.1 (Jf q (Um x s.2))
   have h4:=GG hq hz h1 (Um x s.2)
   have h5:=hs s List.mem_cons_self
   omega
  ·rw [Rat.zero_add];omega
theorem FU {a b:List Int} (h:a.length=b.length) (ha:∀ x∈a,0≤x) (hb:∀ x∈b,0≤x):(∀ x∈J0 a b,0≤x)∧(J0 a b).sum=a.sum+b.sum:=by
 induction a generalizing b with
 |nil=>cases b with
  |nil=>exact⟨fun x hx=>(by cases hx),rfl⟩
  |cons y b=>simp at h
 |cons x a ih=>cases b with
  |nil=>simp at h
  |cons y b =>
   have:=ih (b:=b) (by simpa using h) (fun x hx=>ha x (List.mem_cons_of_mem _ hx)) (fun x hx=>hb x (List.mem_cons_of_mem _ hx))
   have h1:=ha x List.mem_cons_self
   have h2:=hb y List.mem_cons_self
   show(∀ z∈(x+y)::J0 a b,0≤z)∧((x+y)::J0 a b).sum=_
   refine⟨fun z hz=>?_,?_⟩
   ·rcases List.mem_cons.1 hz with rfl | hz
    ·omega
    ·exact this.1 z hz
   ·rw [List.sum_cons,this.2,List.sum_cons,List.sum_cons];omega
theorem Bd.zH {p q:List Tm} {k c1 z1 c2 z2:Nat} {d1 d2:Int} (hp:Bd p k c1 z1 d1) (hq:Bd q k c2 z2 d2):∀ t∈Q8 p q,t.2.length=k∧(∀ x∈t.2,0≤x)∧t.2.sum≤d1+d2:=fun t ht=>by
 obtain ⟨s,hs,u,hu,e⟩:=Pr ht
 have h1:=hp.wd s hs
 have h2:=hq.wd u hu
 obtain ⟨h3,h4⟩:=FU (by omega) (hp.nn s hs).1 (hq.nn u hu).1
 rw [e]
 have h5:=(hp.nn s hs).2
 have h6:=(hq.nn u hu).2
 exact⟨by rw [Yx (by omega)];exact h1,h3,by omega⟩
theorem Bd.mul {p q:List Tm} {k c1 z1 c2 z2:Nat} {d1 d2:Int} (hp:Bd p k c1 z1 d1) (hq:Bd q k c2 z2 d2) (h2:1≤z2):Bd (JQ (Q8 p q)) k (c1*c2) (c1*(z1+z2+1)+1) (d1+d2) where
 can:=Zw _
 wd:=(hp.wd.Q8 hq.wd).JQ
 nn:=fun t ht=>by
  obtain ⟨y,hy,e⟩:=H5 ht
  rw [← e];exact(hp.zH hq y hy).2
 ln:=by
  have h1:=Va (Q8 p q)
  rw [WE] at h1
  exact Nat.le_trans h1 (Nat.mul_le_mul hp.ln hq.ln)
 sz:=fun t ht=>by
  rw [← WT (Zw _) ht,Kc]
  have h1:=Bu hq.can hq.wd hq.sz h2 t.2 p hp.wd hp.sz
  have h3:p.length*(z1+z2+1)≤c1*(z1+z2+1):=Nat.mul_le_mul_right _ hp.ln
  omega
theorem Bd.ZV {p:List Tm} {k c z:Nat} {d:Int} (h:Bd p k c z d):YtknegjaeoffnbaaGreatDoor.ZV p≤c*(z+1):=Nat.le_trans (Hf h.sz) (Nat.mul_le_mul_right _ h.ln)
theorem Bd.xH {p q:List Tm} {k c1 z1 c2 z2:Nat} {d1 d2:Int} (hp:Bd p k c1 z1 d1) (hq:Bd q k c2 z2 d2) (hk:k≤1000) (h1:c1≤10000) (h2:c2≤10000) (hd:d1+d2≤1000000) (hd1:d1≤1000000) (hd2:d2≤1000000) (hs1:c1*(z1+1)≤20000000) (hs2:c2*(z2+1)≤20000000) (hs:c1*c2*(z1+z2+1)≤40000000):B0 p q k where
 wp:=hp.wd
 wq:=hq.wd
 lp:=Nat.le_trans hp.ln h1
 lq:=Nat.le_trans hq.ln h2
 pp:=hp.pw hk hd1
 pq:=hq.pw hk hd2
 pm:=fun s hs t ht=>by
  have h1:=hp.wd s hs
  have h2:=hq.wd t ht
  obtain ⟨h3,h4⟩:=FU (by omega) (hp.nn s hs).1 (hq.nn t ht).1
  have h5:=(hp.nn s hs).2
  have h6:=(hq.nn t ht).2
  exact⟨fun x hx=>⟨h3 x hx,by have:=AJ h3 x hx;omega⟩,by rw [Yx (by omega),h1];exact hk⟩
 zp:=Nat.le_trans hp.ZV hs1
 zq:=Nat.le_trans hq.ZV hs2
 zm:=by
  have h3:=Hf (l:=Q8 p q) (k:=z1+z2) fun t ht=>by
   unfold Q8 Jn at ht
   obtain ⟨s,hs,h1⟩:=List.mem_flatMap.1 ht
   obtain ⟨u,hu,rfl⟩:=List.mem_map.1 h1
   have:=XJ s.1 u.1
   have:=hp.sz s hs
   have:=hq.sz u hu
   show JO (s.1*u.1)≤_
   omega
  rw [WE] at h3
  have h4:p.length*q.length≤c1*c2:=Nat.mul_le_mul hp.ln hq.ln
  have h5:p.length*q.length*(z1+z2+1)≤c1*c2*(z1+z2+1):=Nat.mul_le_mul_right _ h4
  omega
theorem Bd.const (a:Rat) (k:Nat):Bd (Yg a k) k 1 (JO a) 0:=by
 unfold Yg
 by_cases h:a=0
 ·rw [if_pos h]
  exact⟨Canon.nil,fun _ h=>(by cases h),fun _ h=>(by cases h),Nat.zero_le _,fun _ h=>(by cases h)⟩
 ·rw [if_neg h]
  refine⟨⟨by simp,fun t ht=>by rw [List.mem_singleton.1 ht];exact h⟩,fun t ht=>by rw [List.mem_singleton.1 ht];simp,fun t ht=>?_,by simp,fun t ht=>by rw [List.mem_singleton.1 ht];exact Nat.le_refl _⟩
  rw [List.mem_singleton.1 ht]
  refine⟨fun x hx=>?_,?_⟩
  ·rw [List.eq_of_mem_replicate hx];exact Int.le_refl _
  ·show(List.replicate k (0:Int)).sum≤0
   rw [PT];exact Int.le_refl _
theorem Nj:∀ (a:List Int),J0 a (List.replicate a.length 0)=a
 |[]=>rfl
 |x::a=>by
  show(x+0)::J0 a (List.replicate a.length 0)=_
  rw [Nj a,Int.add_zero]
theorem A1 {p:List Tm} {k:Nat} (hw:Zc k p):Q8 p (Yg 1 k)=p:=by
 rw [show Yg 1 k=[(1,List.replicate k 0)] from by unfold Yg;rw [if_neg (by decide)]]
 induction p with
 |nil=>rfl
 |cons t p ih =>
  rw [Xb,ih hw.tail]
  have:=hw t List.mem_cons_self
  show [(t.1*1,J0 t.2 (List.replicate k 0))]++p=_
  rw [Rat.mul_one,← this,Nj];rfl
theorem Bd.pow {w:List Tm} {k z:Nat} (h:Bd w k 3 z 2) (hz:1≤z):Bd (WH w k 0) k 1 1 0∧Bd (WH w k 1) k 3 (z+4) 2∧Bd (WH w k 2) k 9 (6*z+20) 4:=by
 have h0:Bd (WH w k 0) k 1 1 0:=(Bd.const 1 k).mono (Nat.le_refl _) (by decide) (Int.le_refl _)
 have h1:Bd (WH w k 1) k 3 (z+4) 2:=(h0.mul h hz).mono (by omega) (by omega) (by omega)
 exact⟨h0,h1,(h1.mul h hz).mono (by omega) (by omega) (by omega)⟩
end
section
open Go.RowKit Ig
def SG:Nat→Nat
 |0=>1
 |1=>3
 |_=>9
def Fo (z:Nat):Nat→Nat
 |0=>z
 |1=>2*z+6
 |_=>9*z+34
theorem Wz {l:List Int} (h:∀ x∈l,0≤x) (j:Nat):0≤(l.take j).sum∧(l.take j).sum≤l.sum:=by
 have h1:(l.take j).sum+(l.drop j).sum=l.sum:=by rw [← List.sum_append,List.take_append_drop]
 have h2:=N5 (l:=l.take j) fun x hx=>h x (List.mem_of_mem_take hx)
 have h3:=N5 (l:=l.drop j) fun x hx=>h x (List.mem_of_mem_drop hx)
 omega
section
variable {c:Rat} {ws:List (List Tm)} {ks:List Int} {k z:Nat}
theorem FN (hn:∀ x∈ks,0≤x) (h2:ks.sum≤2) (hw:∀ i,i<ks.length→Bd (el ws i) k 3 z 2) (hc:JO c≤z) (hz:1≤z):∀ j,j≤ks.length→Bd (DZ c ws ks k j) k (SG (ks.take j).sum.toNat) (Fo z (ks.take j).sum.toNat) (2*(ks.take j).sum)
 |0,_=>(Bd.const c k).mono (Nat.le_refl _) hc (Int.le_refl _)
 |j+1,hj=>by
  have ih:=FN hn h2 hw hc hz j (by omega)
  obtain ⟨p0,p1,p2⟩:=(hw j (by omega)).pow hz
  have hs:=Wz hn j
  have hs1:=Wz hn (j+1)
  have hst:=BH (l:=ks) (i:=j) (by omega)
  have hd:0≤Qb ks j:=by rw [Xx (by omega)];exact hn _ (JN (by omega))
  obtain ⟨s,hse⟩:∃ s:Nat,(ks.take j).sum=(s:Int):=⟨_,(Int.toNat_of_nonneg hs.1).symm⟩
  obtain ⟨d,hde⟩:∃ d:Nat,Qb ks j=(d:Int):=⟨_,(Int.toNat_of_nonneg hd).symm⟩
  rw [hse] at ih hst
  rw [hst,hde]
  have hsd:s+d≤2:=by omega
  have e1:((s:Int)+(d:Int)).toNat=s+d:=by omega
  rw [e1]
  rw [show((s:Int)).toNat=s from rfl] at ih
  show Bd (JQ (Q8 (DZ c ws ks k j) (WH (el ws j) k (Qb ks j).toNat))) k _ _ _
  rw [hde,show((d:Int)).toNat=d from rfl]
  match s,d,hsd with
  |s,0,_ =>
   rw [show WH (el ws j) k 0=Yg 1 k from rfl,A1 ih.wd,VL ih.can]
   exact ih.mono (Nat.le_refl _) (Nat.le_refl _) (by omega)
  |0,1,_=>exact(ih.mul p1 (by omega)).mono (by simp [SG]) (by simp [SG,Fo];omega) (by omega)
  |1,1,_=>exact(ih.mul p1 (by omega)).mono (by simp [SG]) (by simp [SG,Fo];omega) (by omega)
  |0,2,_=>exact(ih.mul p2 (by omega)).mono (by simp [SG]) (by simp [SG,Fo];omega) (by omega)
theorem yF (s:Nat):SG s≤9:=by unfold SG;split<;>omega
theorem xz {z:Nat} (s:Nat):Fo z s≤9*z+34:=by unfold Fo;split<;>omega
theorem Nc (hn:∀ x∈ks,0≤x) (h2:ks.sum≤2) (hw:∀ i,i<ks.length→Bd (el ws i) k 3 z 2) (hc:JO c≤z) (hz:1≤z) {j:Nat} (hj:j≤ks.length):Bd (DZ c ws ks k j) k 9 (9*z+34) 4 :=
 (FN hn h2 hw hc hz j hj).mono (yF _) (xz _) (by have:=Wz hn j;omega)
theorem A2 {w:List Tm} (h:Bd w k 3 z 2) (hz:1≤z) {d:Nat} (hd:d≤2):Bd (WH w k d) k 9 (6*z+20) 4:=by
 obtain ⟨p0,p1,p2⟩:=h.pow hz
 match d,hd with
 |0,_=>exact p0.mono (by omega) (by omega) (by omega)
 |1,_=>exact p1.mono (by omega) (by omega) (by omega)
 |2,_=>exact p2
end
theorem Bd.add {p q:List Tm} {k c1 z1 c2 z2:Nat} {d:Int} (hp:Bd p k c1 z1 d) (hq:Bd q k c2 z2 d) (h1:1≤z1) (h2:1≤z2):Bd (JQ (p++q)) k (c1+c2) (z1+z2+1) d where
 can:=Zw _
 wd:=(hp.wd.append hq.wd).JQ
 nn:=fun t ht=>by
  obtain ⟨y,hy,e⟩:=H5 ht
  rw [← e]
  rcases List.mem_append.1 hy with hy | hy
  ·exact hp.nn y hy
  ·exact hq.nn y hy
 ln:=by
  have h3:=Va (p++q)
  rw [List.length_append] at h3
  have:=hp.ln
  have:=hq.ln
  omega
 sz:=fun t ht=>by
  rw [← WT (Zw _) ht,Kc,Zv]
  have h3:=Vc (Jf p t.2) (Jf q t.2)
  have h4:=GG hp.can hp.sz h1 t.2
  have h5:=GG hq.can hq.sz h2 t.2
  omega
structure dC (ws:List (List Tm)) (k z:Nat) (l:List Tm):Prop where
 ln:l.length≤6
 nn:∀ t∈l,(∀ x∈t.2,0≤x)∧t.2.sum≤2
 wl:∀ t∈l,t.2.length≤ws.length
 sz:∀ t∈l,JO t.1≤z
 ws:∀ w∈ws,Bd w k 3 z 2
theorem FM {ws:List (List Tm)} {k z:Nat} {l:List Tm} (h:dC ws k z l) (hz:1≤z):∀ i,i≤l.length→Bd (WS ws k (l.take i)) k (9*i) (1+i*(9*z+35)) 4
 |0,_=>⟨Canon.nil,fun _ h=>(by cases h),fun _ h=>(by cases h),Nat.zero_le _,fun _ h=>(by cases h)⟩
 |i+1,hi=>by
  have ih:=FM h hz i (by omega)
  have hm:=JN (show i<l.length by omega)
  have hn:=h.nn _ hm
  have e:WS ws k (l.take (i+1))=JQ (WS ws k (l.take i)++DZ (el l i).1 ws (el l i).2 k (el l i).2.length):=by
   unfold WS;rw [X4 (show i<l.length by omega),List.foldl_append];rfl
  rw [e]
  have hw:∀ j,j<(el l i).2.length→Bd (el ws j) k 3 z 2:=fun j hj=>h.ws _ (JN (Nat.lt_of_lt_of_le hj (h.wl _ hm)))
  have ht:=Nc (k:=k) hn.1 hn.2 hw (h.sz _ hm) hz (Nat.le_refl _)
  exact(ih.add ht (by omega) (by omega)).mono (by omega) (by rw [Nat.add_mul];omega) (by omega)
theorem yG {ws:List (List Tm)} {k z:Nat} {l:List Tm} (h:dC ws k z l) (hz:1≤z) (hz2:z≤2400) (hk:k≤1000):Fa ws k l:=by
 have hp:∀ i,i≤l.length→Bd (WS ws k (l.take i)) k 54 130000 4:=fun i hi=>by
  have h1:=FM h hz i hi
  have h2:=h.ln
  have h3:i*(9*z+35)≤6*21635:=Nat.mul_le_mul (by omega) (by omega)
  exact h1.mono (by omega) (by omega) (Int.le_refl _)
 have hw:∀ t∈l,∀ j,j<t.2.length→Bd (el ws j) k 3 z 2:=fun t ht j hj=>h.ws _ (JN (Nat.lt_of_lt_of_le hj (h.wl _ ht)))
 have hfull:=hp l.length (Nat.le_refl _)
 rw [List.take_length] at hfull
 refine⟨fun t ht j hj=>?_,fun i hi=>?_,hfull.pw hk (by omega),fun t ht=>Nat.le_trans (hfull.sz t ht) (by omega),Nat.le_trans hfull.ln (by omega)⟩
 ·have hn:=h.nn t ht
  have hb:=hw t ht j hj
  have hd:0≤Qb t.2 j∧Qb t.2 j≤2:=by
   rw [Xx hj]
   have:=AJ hn.1 _ (JN hj)
   exact⟨hn.1 _ (JN hj),by omega⟩
  have hm:=Nc (k:=k) hn.1 hn.2 (hw t ht) (h.sz t ht) hz (Nat.le_of_lt hj)
  have hpw:=A2 hb hz (d:=(Qb t.2 j).toNat) (by omega)
  refine⟨hm.xH hpw hk (by omega) (by omega) (by omega) (by omega) (by omega) (by omega) (by omega) (by omega),fun i hi=>?_⟩
  have hpi:=A2 hb hz (d:=i) (by omega)
  exact hpi.xH hb hk (by omega) (by omega) (by omega) (by omega) (by omega) (by omega) (by omega) (by omega)
 ·have hm:=JN hi
  have hn:=h.nn _ hm
  have h1:=hp i (by omega)
  have h2:=Nc (k:=k) hn.1 hn.2 (hw _ hm) (h.sz _ hm) hz (Nat.le_refl _)
  refine⟨h1.pw hk (by omega),h2.pw hk (by omega),Nat.le_trans h1.ln (by omega),Nat.le_trans h2.ln (by omega),?_⟩
  rw [XV]
  have:=h1.ZV
  have:=h2.ZV
  omega
end
end Go.Proofs.YtknegjaeoffnbaaGreatDoor
