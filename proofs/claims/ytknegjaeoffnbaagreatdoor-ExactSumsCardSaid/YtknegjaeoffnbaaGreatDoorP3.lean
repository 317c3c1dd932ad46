/- Steps of the proof of the theorem in the last file. -/
import Derived.Test.YtknegjaeoffnbaaGreatDoorP2
import Derived.Shelf.SlSortCmp.PdqK
import Derived.Ground.SlsfProg
import Derived.Test.YtknegjaeoffnbaaGreatDoorProg
import Derived.Sort.AssemblyPlain
import Derived.Shelf.SlSortCmp.NoneTotal
import Derived.RangeFuncLeaves
import Derived.RangeFuncSeq
import Derived.OwnWalkIn
import Derived.OrdersIn
import Derived.ChangeKeysEq
set_option linter.all false
set_option maxHeartbeats 4000000
namespace Go.Proofs.YtknegjaeoffnbaaGreatDoor
section
open Go.RowKit Ig
structure XO where
 x:Fr
 r:Sr
 t:Tm
instance :Inhabited XO:=⟨⟨⟨⟨0,none,0,0⟩,⟨0,none,0,0⟩⟩,⟨none,0,0⟩,(0,[])⟩⟩
def Ya (t:XO):List Value:=[.int .i64 t.x.n.s,.slice t.x.n.q t.x.n.n t.x.n.cap,.int .i64 t.x.d.s,.slice t.x.d.q t.x.d.n t.x.d.cap,.slice t.r.q t.r.n t.r.cap]
@[reducible] def Ui (t:XO):Value:=.agg #[.int .i64 t.x.n.s,.slice t.x.n.q t.x.n.n t.x.n.cap,.int .i64 t.x.d.s,.slice t.x.d.q t.x.d.n t.x.d.cap,.slice t.r.q t.r.n t.r.cap]
theorem YH (t:XO):(Ya t).length=5:=rfl
def SF (F:Gs) (t:XO):Prop:=JW F t.x t.t.1∧JP F t.r t.t.2
theorem SF.le {F F':Gs} {t:XO} (h:SF F t) (k:Gs.le F F'):SF F' t:=⟨h.1.le k,h.2.le k⟩
def VO (F:Gs) (ts:List XO):Prop:=∀ t∈ts,SF F t
theorem VO.le {F F':Gs} {ts:List XO} (h:VO F ts) (k:Gs.le F F'):VO F' ts:=fun t ht=>(h t ht).le k
def WX (ts:List XO):List (List UInt8×Value):=ts.map fun t=>(Yb t.t.2,Ui t)
def JF (ts:List XO):List Tm:=ts.map (·.t)
def addN:List XO→XO→List XO
 |[],n=>[n]
 |t::l,n=>if n.t.2=t.t.2 then n::l else t::addN l n
theorem SO:∀ (ts:List XO) (n:XO),JF (addN ts n)=Hk (JF ts) n.t
 |[],n=>rfl
 |t::l,n=>by
  have ih:=SO l n
  unfold JF at ih ⊢
  simp only [addN,List.map_cons,Hk]
  split
  ·simp
  ·simp [ih]
theorem Mt:∀ (ts:List XO) (n:XO),WX (addN ts n)=BB (WX ts) (Yb n.t.2) (Ui n)
 |[],n=>rfl
 |t::l,n=>by
  have ih:=Mt l n
  unfold WX at ih ⊢
  simp only [addN,List.map_cons,BB]
  by_cases h:n.t.2=t.t.2
  ·rw [if_pos h,if_pos (congrArg Yb h)];simp
  ·rw [if_neg h,if_neg fun e=>h (BK e)];simp [ih]
theorem Mp {ts:List XO} {n x:XO} (h:x∈addN ts n):x=n∨x∈ts:=by
 induction ts with
 |nil=>simp [addN] at h;exact .inl h
 |cons t l ih =>
  simp only [addN] at h
  split at h
  ·rcases List.mem_cons.1 h with h | h
   ·exact .inl h
   ·exact .inr (List.mem_cons_of_mem _ h)
  ·rcases List.mem_cons.1 h with h | h
   ·exact .inr (h ▸ List.mem_cons_self)
   ·rcases ih h with h | h
    ·exact .inl h
    ·exact .inr (List.mem_cons_of_mem _ h)
theorem jo:∀ (ts:List XO) (p:List Int) (i:Nat),(Zs (WX ts) (Yb p) i=none∧p∉(JF ts).map (·.2))∨∃ j,∃ t∈ts,t.t.2=p∧Zs (WX ts) (Yb p) i=some (j,Ui t)
 |[],_,_=>.inl ⟨rfl,by simp [JF]⟩
 |t::l,p,i=>by
  by_cases h:p=t.t.2
  ·exact .inr ⟨i,t,List.mem_cons_self,h.symm,by show(if _ then _ else _)=_;rw [if_pos (congrArg Yb h)]⟩
  ·rcases jo l p (i+1) with ⟨h1,h2⟩ | ⟨j,u,hu,h1,h2⟩
   ·refine .inl ⟨?_,?_⟩
    ·show(if _ then _ else _)=_
     rw [if_neg fun e=>h (BK e)];exact h1
    ·simp only [JF,List.map_cons,List.mem_cons,not_or];exact⟨h,h2⟩
   ·refine .inr ⟨j,u,List.mem_cons_of_mem _ hu,h1,?_⟩
    show(if _ then _ else _)=_
    rw [if_neg fun e=>h (BK e)];exact h2
def Zb (l:List Tm):Nat:=(l.map fun t=>JL t.1+1).sum
theorem Xb (l m:List Tm):Zb (l++m)=Zb l+Zb m:=by unfold Zb;rw [List.map_append,List.sum_append]
theorem Hx:∀ (l:List Tm) (k:List Int),JL (Jl l k)≤Zb l+1
 |[],k=>by show JL (0:Rat)≤_;decide
 |t::l,k=>by
  have h1:=Hx l k
  simp only [Jl]
  have h2:=KN (if t.2=k then t.1 else 0) (Jl l k)
  have h3:JL (if t.2=k then t.1 else 0)≤JL t.1+1:=by
   split
   ·omega
   ·have:JL (0:Rat)≤1:=by decide
    omega
  have e:Zb (t::l)=JL t.1+1+Zb l:=by unfold Zb;rw [List.map_cons,List.sum_cons]
  have h4:JL (Jl (t::l) k)≤Zb l+1+(JL t.1+1):=by
   simp only [Jl]
   by_cases g:t.2=k
   ·rw [if_pos g] at h2 ⊢
    omega
   ·rw [if_neg g,Rat.zero_add];omega
  rw [e]
  simp only [Jl] at h4
  omega
structure Ko (ts:List XO) (l:List Tm):Prop where
 T4:IV (JF ts) l
 pw:∀ t∈ts,PW t.t.2
 ln:ts.length≤l.length
theorem Ko.nil:Ko [] []:=⟨IV.nil,(fun _ h=>by cases h),Nat.le_refl _⟩
theorem Oo (ts:List XO) (n:XO):(addN ts n).length≤ts.length+1:=by
 induction ts with
 |nil=>exact Nat.le_refl _
 |cons t l ih =>
  simp only [addN]
  split<;>simp only [List.length_cons]<;>omega
theorem Ko.add {ts:List XO} {l:List Tm} (h:Ko ts l) {f:Rat} {p:List Int} (hp:PW p) {n:XO} (hn:n.t=(f+Jl (JF ts) p,p)):Ko (addN ts n) (l++[(f,p)]) :=
 ⟨by rw [SO,hn];exact h.T4.add f p,fun t ht=>by
  rcases Mp ht with rfl | ht
  ·rw [hn];exact hp
  ·exact h.pw t ht,by have:=Oo ts n;have:=h.ln;rw [List.length_append];simp only [List.length_singleton];omega⟩
theorem Ko.sz {ts:List XO} {l:List Tm} (h:Ko ts l) {t:XO} (ht:t∈ts):JL t.t.1≤Zb l+1:=by
 rw [← h.T4.Be (List.mem_map_of_mem (f:=XO.t) ht),h.T4.eq];exact Hx _ _
theorem Mk:TC Tryz.prog 227 9 165=true:=by kernel_rfl
theorem Rh:R6 Tryz.prog 9 tx:=.str (by kernel_rfl)
theorem CF:yX Tryz.prog 165=some (.agg #[.int .i64 0,.slice none 0 0,.int .i64 0,.slice none 0 0,.slice none 0 0]):=by kernel_rfl
end
section
open Go.RowKit Ig
theorem R8 {P:Program} {Q:Exit→Act→World→Prop} {N:Nat} {m:Sl} {w0:World} {F0:Gs} {bs:List (Nat×Obj)} {G H:Gs→Prop} {c:Code} (h:∀ F,G F→H F) (k:J P c Q N m ⟨w0,F0,bs,fun F=>G F∧H F⟩):J P c Q N m ⟨w0,F0,bs,G⟩ :=
 fun a w ha hw=>k a w ha (hw.BL fun F h'=>⟨h',h F h'⟩)
variable {w0:World} {F0:Gs} {bs:List (Nat×Obj)} {G:Gs→Prop}
theorem UL {ts:List XO} {l:List Tm} {m:Nat} {x:Fr} {f:Rat} {r:Sr} {p:List Int} (hI:Ko ts l) (hp:PW p) (hz:JL f≤40000000) (hl:Zb l≤40000000) (hG:∀ F,G F→JB F∧VO F ts∧JW F x f∧JP F r p) {t0:XO} {j:Nat} (ht:t0∈ts) (h0:t0.t.2=p) (hf:Zs (WX ts) (Yb p) 0=some (j,Ui t0)) :
  J5 Tryz.prog 210 [.map (some m),x.v,r.v] ⟨w0,F0,(m,X3 tx (WX ts))::bs,G⟩ (fun(_:XO)=>.tuple #[]) (fun n=>⟨w0,F0,(m,X3 tx (WX (addN ts n)))::bs,fun F=>G F∧VO F (addN ts n)∧n.t=(f+Jl (JF ts) p,p)⟩):=by
 have hc0:Jl (JF ts) p=t0.t.1:=by rw [← h0];exact hI.T4.Be (List.mem_map_of_mem (f:=XO.t) ht)
 have hz0:=hI.sz ht
 dsimp only [Sr.v,Fr.v]
 refine J5.intro Tryz.func210 rfl (by rfl) rfl rfl<|R8 hG<|J_sr<|Qw rfl (vs:=[_,_,_,_]) rfl (fun b4=>JS_nt<|J_sr<|JS_mv rfl<|QI rfl (fun w F hF ⟨hG0,hGl,hT,⟨hxn,hxd⟩,hR⟩=>Lq hF hGl (r:=r) hR (hp)) (fun _=>JS_as rfl<|JS_nt<|QG<|J_sr<|JS_mv rfl<|JS_mv rfl<|QA (Sn Rh rfl rfl Mk (.there .here) hf)<|JS_mv rfl<|QA (QM rfl rfl)<|QA (QM rfl rfl)<|Qb ZW (fun b7=>QN (vs:=[_,_,_,_,_]) rfl rfl rfl Jd rfl .here (.here (.here (.here (.here (.here .nil))))) ⟨rfl,rfl,rfl,rfl,rfl,trivial⟩ ?_)))
 refine JS_as rfl<|JS_nt<|J_sr<|JS_mv rfl<|QE<|QC ?_
 refine QR rfl (fun hc=>?_) (fun hc=>?_)
 ·
  refine QB<|QA (QJ (vs:=[_,_,_,_]) rfl Qc (.there .here) (.here (.here (.here (.here .nil)))) rfl)<|QA (QH rfl Z0 Qc)<|QA (QJ (vs:=[_,_,_,_]) rfl Qc .here (.here (.here (.here (.here .nil)))) rfl)<|QI rfl (fun w F hF ⟨⟨hG0,hGl,hT,⟨hxn,hxd⟩,hR⟩,_⟩=>ED hF ⟨by assumption,by assumption⟩ ((hT t0 ht).1) (by omega) (by omega)) (fun x21=>QN (vs:=[_,_,_,_]) rfl rfl rfl Qc rfl (.there .here) (.here (.here (.here (.here .nil)))) ⟨rfl,rfl,rfl,rfl,trivial⟩<|JS_nt<|QB<|JS_mv rfl<|JS_mv rfl<|QA (QJ (vs:=[_,_,_,_]) rfl Qc (.there .here) (.here (.here (.here (.here .nil)))) rfl)<|JS_mv rfl<|QA (Qy rfl Md ZW (.cons (vs:=[_,_,_,_]) rfl rfl rfl (.here (.here (.here (.here .nil)))) (.cons (vs:=[_]) rfl rfl rfl (.skip (.skip (.skip (.skip (.here .nil))))) .nil)))<|GY (k:=Yb p) (v:=Ui ⟨x21,r,(f+t0.t.1,p)⟩) Rh rfl rfl rfl Mk (.there (.there .here))<|QE<|DQ ?_)
  exact Yn (⟨x21,r,(f+t0.t.1,p)⟩) rfl .nil (rfl) (fun w h=>by
   show St ⟨w0,F0,(m,X3 tx (WX (addN ts ⟨x21,r,(f+t0.t.1,p)⟩)))::bs,_⟩ w
   rw [Mt]
   exact St.imp h (.cons _ (.cons _ subl_r)) (fun F ⟨⟨⟨hG0,hGl,hT,⟨hxn,hxd⟩,hR⟩,_⟩,⟨h21,h21_⟩⟩=>⟨hG0,fun t ht=>by
    rcases Mp ht with rfl | ht
    ·exact⟨⟨by assumption,by assumption⟩,hR⟩
    ·exact hT t ht,by rw [hc0]⟩))
 ·exact absurd hc (by cases hc)
theorem SS {ts:List XO} {l:List Tm} {m:Nat} {x:Fr} {f:Rat} {r:Sr} {p:List Int} (hI:Ko ts l) (hp:PW p) (hz:JL f≤40000000) (hl:Zb l≤40000000) (hG:∀ F,G F→JB F∧VO F ts∧JW F x f∧JP F r p) (hf:Zs (WX ts) (Yb p) 0=none) (hm:p∉(JF ts).map (·.2)) :
  J5 Tryz.prog 210 [.map (some m),x.v,r.v] ⟨w0,F0,(m,X3 tx (WX ts))::bs,G⟩ (fun(_:XO)=>.tuple #[]) (fun n=>⟨w0,F0,(m,X3 tx (WX (addN ts n)))::bs,fun F=>G F∧VO F (addN ts n)∧n.t=(f+Jl (JF ts) p,p)⟩):=by
 have hc0:Jl (JF ts) p=0:=Pu hm
 dsimp only [Sr.v,Fr.v]
 refine J5.intro Tryz.func210 rfl (by rfl) rfl rfl<|R8 hG<|J_sr<|Qw rfl (vs:=[_,_,_,_]) rfl (fun b4=>JS_nt<|J_sr<|JS_mv rfl<|QI rfl (fun w F hF ⟨hG0,hGl,hT,⟨hxn,hxd⟩,hR⟩=>Lq hF hGl (r:=r) hR (hp)) (fun _=>JS_as rfl<|JS_nt<|QG<|J_sr<|JS_mv rfl<|JS_mv rfl<|QA (PJ Rh rfl rfl Mk CF (.there .here) hf)<|JS_mv rfl<|QA (QM rfl rfl)<|QA (QM rfl rfl)<|Qb ZW (fun b7=>QN (vs:=[_,_,_,_,_]) rfl rfl rfl Jd rfl .here (.here (.here (.here (.here (.here .nil))))) ⟨rfl,rfl,rfl,rfl,rfl,trivial⟩ ?_)))
 refine JS_as rfl<|JS_nt<|J_sr<|JS_mv rfl<|QE<|QC ?_
 refine QR rfl (fun hc=>?_) (fun hc=>?_)
 ·exact absurd hc (by cases hc)
 ·
  refine QP<|QC<|QB<|JS_mv rfl<|JS_mv rfl<|QA (QJ (vs:=[_,_,_,_]) rfl Qc (.there .here) (.here (.here (.here (.here .nil)))) rfl)<|JS_mv rfl<|QA (Qy rfl Md ZW (.cons (vs:=[_,_,_,_]) rfl rfl rfl (.here (.here (.here (.here .nil)))) (.cons (vs:=[_]) rfl rfl rfl (.skip (.skip (.skip (.skip (.here .nil))))) .nil)))<|GY (k:=Yb p) (v:=Ui ⟨x,r,(f,p)⟩) Rh rfl rfl rfl Mk (.there (.there .here))<|QE<|DQ ?_
  exact Yn (⟨x,r,(f,p)⟩) rfl .nil (rfl) (fun w h=>by
   show St ⟨w0,F0,(m,X3 tx (WX (addN ts ⟨x,r,(f,p)⟩)))::bs,_⟩ w
   rw [Mt]
   exact St.imp h (.cons _ (.cons _ subl_r)) (fun F ⟨⟨hG0,hGl,hT,⟨hxn,hxd⟩,hR⟩,_⟩=>⟨hG0,fun t ht=>by
    rcases Mp ht with rfl | ht
    ·exact⟨⟨by assumption,by assumption⟩,hR⟩
    ·exact hT t ht,by rw [hc0,Rat.add_zero]⟩))
theorem H2 {ts:List XO} {l:List Tm} {m:Nat} {x:Fr} {f:Rat} {r:Sr} {p:List Int} (hI:Ko ts l) (hp:PW p) (hz:JL f≤40000000) (hl:Zb l≤40000000) (hG:∀ F,G F→JB F∧VO F ts∧JW F x f∧JP F r p) :
  J5 Tryz.prog 210 [.map (some m),x.v,r.v] ⟨w0,F0,(m,X3 tx (WX ts))::bs,G⟩ (fun(_:XO)=>.tuple #[]) (fun n=>⟨w0,F0,(m,X3 tx (WX (addN ts n)))::bs,fun F=>G F∧VO F (addN ts n)∧n.t=(f+Jl (JF ts) p,p)⟩):=by
 rcases jo ts p 0 with ⟨h1,h2⟩ | ⟨j,t,ht,h1,h2⟩
 ·exact SS hI hp hz hl hG h1 h2
 ·exact UL hI hp hz hl hG ht h1 h2
end
section
open Go.RowKit Ig
variable [Dr]
theorem Cg {w:World} {F:Gs} {a b:XO} (hF:Fits F w) (hA:SF F a) (hB:SF F b) (pa:PW a.t.2) (pb:PW b.t.2):QZ Tryz.prog 253 [Ui a,Ui b] w F (.int .i64 (VC a.t.2 b.t.2)):=by
 refine QS.intro (G:=fun F=>SF F a∧SF F b) Tryz.func253 rfl (by rfl) rfl rfl hF (fun F' hF'=>⟨hA.le hF',hB.le hF'⟩)<|J_sr<|Qw rfl (vs:=[_,_,_,_,_]) rfl (fun b2=>Qw rfl (vs:=[_,_,_,_,_]) rfl (fun b3=>JS_as rfl<|JS_nt<|J_sr<|QA (QH rfl X4 Qz)<|QA (Qj rfl Qz (.there .here) (.skip (.skip (.skip (.skip (.here .nil))))))<|QA (QH rfl X4 Qz)<|QA (Qj rfl Qz .here (.skip (.skip (.skip (.skip (.here .nil))))))<|QI rfl (fun w F hF ⟨hA,hB⟩=>HM hF (ra:=a.r) (rb:=b.r) hA.2 (hB.2) (pa) (pb)) (fun _=>JS_as rfl<|JS_nt<|QT ?_)))
 exact QQ (()) rfl (.tmp rfl .nil) (rfl) (fun F ⟨⟨hA,hB⟩,_⟩=>trivial)
end
end Go.Proofs.YtknegjaeoffnbaaGreatDoor
namespace Go.Proofs
open Go.Shelf
def Tryz.Fc:Go.Shelf.Ren:=⟨fun | 14=>213 | 20=>257 | 21=>258 | 22=>259 | 23=>260 | 24=>261 | 25=>262 | 26=>263 | 27=>264 | 46=>290 | 47=>291 | 48=>292 | 49=>293 | 50=>294 | 15=>214 | 57=>311 | 28=>265 | 29=>266 | n=>n,fun | 24=>165 | 22=>156 | 3=>3 | 25=>168 | 4=>4 | 0=>0 | 46=>263 | 45=>262 | 50=>85 | 66=>290 | 39=>232 | 55=>248 | 70=>294 | 76=>308 | 77=>309 | 53=>269 | 5=>5 | 9=>9 | n=>n,fun | n=>n⟩
theorem Tryz.jS:Go.Proofs.SlLaysF0.n14 Tryz.prog Tryz.Fc:={
 mixed:=by kernel_rfl
 f14:=⟨Tryz.f213.name,by decide,Tryz.func213.trans (congrArg some (by kernel_rfl))⟩
 f15:=Tryz.func214.trans (congrArg some (by kernel_rfl))
 f20:=⟨Tryz.f257.name,by decide,Tryz.func257.trans (congrArg some (by kernel_rfl))⟩
 f21:=⟨Tryz.f258.name,by decide,Tryz.func258.trans (congrArg some (by kernel_rfl))⟩
 f22:=⟨Tryz.f259.name,by decide,Tryz.func259.trans (congrArg some (by kernel_rfl))⟩
 f23:=⟨Tryz.f260.name,by decide,Tryz.func260.trans (congrArg some (by kernel_rfl))⟩
 f24:=⟨Tryz.f261.name,by decide,Tryz.func261.trans (congrArg some (by kernel_rfl))⟩
 f25:=⟨Tryz.f262.name,by decide,Tryz.func262.trans (congrArg some (by kernel_rfl))⟩
 f26:=⟨Tryz.f263.name,by decide,Tryz.func263.trans (congrArg some (by kernel_rfl))⟩
 f27:=⟨Tryz.f264.name,by decide,Tryz.func264.trans (congrArg some (by kernel_rfl))⟩
 f28:=Tryz.func265.trans (congrArg some (by kernel_rfl))
 f29:=Tryz.func266.trans (congrArg some (by kernel_rfl))
 f46:=⟨Tryz.f290.name,by decide,Tryz.func290.trans (congrArg some (by kernel_rfl))⟩
 f47:=Tryz.func291.trans (congrArg some (by kernel_rfl))
 f48:=Tryz.func292.trans (congrArg some (by kernel_rfl))
 f49:=⟨Tryz.f293.name,by decide,Tryz.func293.trans (congrArg some (by kernel_rfl))⟩
 f50:=⟨Tryz.f294.name,by decide,Tryz.func294.trans (congrArg some (by kernel_rfl))⟩
 f57:=⟨Tryz.f311.name,by decide,Tryz.func311.trans (congrArg some (by kernel_rfl))⟩
 t0:=Tryz.underlying0
 a0:=Tryz.isAgg0
 z0:=Tryz.sizeOf0
 v0:=Tryz.zeroValue0
 t3:=Tryz.underlying3
 a3:=Tryz.isAgg3
 z3:=Tryz.sizeOf3
 v3:=Tryz.zeroValue3
 t4:=Tryz.underlying4
 a4:=Tryz.isAgg4
 z4:=Tryz.sizeOf4
 v4:=Tryz.zeroValue4
 t5:=Tryz.underlying5
 a5:=Tryz.isAgg5
 z5:=Tryz.sizeOf5
 v5:=Tryz.zeroValue5
 t9:=Tryz.underlying9
 a9:=Tryz.isAgg9
 z9:=Tryz.sizeOf9
 v9:=Tryz.zeroValue9
 t22:=Tryz.underlying156
 a22:=Tryz.isAgg156
 z22:=Tryz.sizeOf156
 v22:=Tryz.zeroValue156
 t25:=Tryz.underlying168
 a25:=Tryz.isAgg168
 z25:=Tryz.sizeOf168
 v25:=Tryz.zeroValue168
 t39:=Tryz.underlying232
 a39:=Tryz.isAgg232
 z39:=Tryz.sizeOf232
 v39:=Tryz.zeroValue232
 t45:=Tryz.underlying262
 a45:=Tryz.isAgg262
 z45:=Tryz.sizeOf262
 v45:=Tryz.zeroValue262
 t46:=Tryz.underlying263
 a46:=Tryz.isAgg263
 z46:=Tryz.sizeOf263
 v46:=Tryz.zeroValue263
 t50:=Tryz.underlying85
 a50:=Tryz.isAgg85
 z50:=Tryz.sizeOf85
 v50:=Tryz.zeroValue85
 t53:=Tryz.underlying269
 a53:=Tryz.isAgg269
 z53:=Tryz.sizeOf269
 v53:=Tryz.zeroValue269
 t55:=Tryz.underlying248
 a55:=Tryz.isAgg248
 z55:=Tryz.sizeOf248
 v55:=Tryz.zeroValue248
 t66:=Tryz.underlying290
 a66:=Tryz.isAgg290
 z66:=Tryz.sizeOf290
 v66:=Tryz.zeroValue290
 t70:=Tryz.underlying294
 a70:=Tryz.isAgg294
 z70:=Tryz.sizeOf294
 v70:=Tryz.zeroValue294
 t76:=Tryz.underlying308
 a76:=Tryz.isAgg308
 z76:=Tryz.sizeOf308
 v76:=Tryz.zeroValue308
 t77:=Tryz.underlying309
 a77:=Tryz.isAgg309
 z77:=Tryz.sizeOf309
 v77:=Tryz.zeroValue309 }
end Go.Proofs
namespace Go.Proofs.YtknegjaeoffnbaaGreatDoor
section
open Go.RowKit Ig Go.Sort
def dB:XO:=⟨⟨⟨0,none,0,0⟩,⟨1,none,0,0⟩⟩,⟨none,0,0⟩,(0,[])⟩
theorem kI (F:Gs):SF F dB:=⟨⟨Jq.small F (by decide) (by decide),Jq.small F (by decide) (by decide)⟩,⟨by simp [Q9,dB],rfl,Nat.le_refl _⟩⟩
theorem PW.nil:PW []:=⟨fun _ h=>(by cases h),by simp⟩
abbrev qi (F:Gs):={t:XO // SF F t∧PW t.t.2}
instance (F:Gs):Inhabited (qi F):=⟨⟨dB,kI F,PW.nil⟩⟩
def Gf (F:Gs):qi F→List Value:=fun t=>Ya t.1
def yR (F:Gs):qi F→qi F→Int:=fun x y=>VC x.1.t.2 y.1.t.2
theorem gD {F:Gs} (x y:qi F):ltOf (yR F) x y=before x.1.t.2 y.1.t.2:=(WL _ _).symm
theorem Nx {a b c:List Int} (h:before a b=false) (k:before b c=false):before a c=false:=by
 cases hb:before a c with
 |false=>rfl
 |true =>
  rcases Y1 b c with e | e | e
  ·subst e;rw [h] at hb;cases hb
  ·rw [k] at e;cases e
  ·rw [before_trans hb e] at h;cases h
theorem yk (F:Gs):SWO (ltOf (yR F)) where
 irrefl:=fun x=>by rw [gD];exact before_irrefl _
 trans:=fun x y z h k=>by rw [gD] at h k ⊢;exact before_trans h k
 ntrans:=fun x y z h k=>by rw [gD] at h k ⊢;exact Nx h k
def Fk (w:World) (F:Gs) (W:World):Gs:=fun b=>if b<w.heap.size then F b else match W.heap[b]? with | some (.cells c T _)=>if T=248 then some (c,248) else none | _=>none
theorem Vq {w W:World} {F:Gs} {b:Nat} (h:b<w.heap.size):Fk w F W b=F b:=if_pos h
theorem Ap {w W:World} {F:Gs} (hF:Fits F w):Gs.le F (Fk w F W):=fun b x hb=>by rw [Vq (hF.lt hb)];exact hb
theorem PU {w W:World} {F:Gs} {Bf:Nat} {c':Array Value} {T:TypeId} {fr':Nat×Nat} (hF:Fits F w) (hn:F Bf=none) (hT:T≠248) (h1:∀ b,b<w.heap.size→b≠Bf→W.heap[b]?=w.heap[b]?) (h2:W.heap[Bf]?=some (.cells c' T fr')):Fits (Fk w F W) W:=by
 refine⟨fun b c T hb=>?_,fun b c fr hb=>?_⟩
 ·by_cases hlt:b<w.heap.size
  ·rw [Vq hlt] at hb
   obtain ⟨fr,e⟩:=hF.row b c T hb
   have hne:b≠Bf:=by rintro rfl;rw [hn] at hb;cases hb
   exact⟨fr,by rw [h1 b hlt hne];exact e⟩
  ·unfold Fk at hb
   rw [if_neg hlt] at hb
   split at hb
   ·rename_i c' T' fr heq
    split at hb
    ·rename_i hT;cases hb;exact⟨fr,by rw [heq,hT]⟩
    ·cases hb
   ·cases hb
 ·by_cases hlt:b<w.heap.size
  ·rw [Vq hlt]
   by_cases hne:b=Bf
   ·subst hne;rw [h2] at hb;cases hb;exact absurd rfl hT
   ·rw [h1 b hlt hne] at hb;exact hF.all b c fr hb
  ·unfold Fk
   rw [if_neg hlt,hb];simp
theorem qH {w w':World} (h1:Below w.heap.size w w') (h2:w.drawn≤w'.drawn):w'=grow (w.drewN (w'.drawn - w.drawn)) (w'.heap.extract w.heap.size w'.heap.size):=by
 have hh:w'.heap=w.heap++w'.heap.extract w.heap.size w'.heap.size:=by
  apply Array.ext_getElem?
  intro i
  rw [Array.getElem?_append]
  split
  ·rename_i h;exact h1.block i h
  ·rename_i h
   rw [Array.getElem?_extract]
   have:=h1.size
   by_cases g:i<w'.heap.size
   ·rw [if_pos (by omega)];congr 1;omega
   ·rw [if_neg (by omega),Array.getElem?_eq_none (by omega)]
 obtain ⟨e1,e2,e3,_,_⟩:=h1
 cases w' with
 |mk heap tape drawn os output =>
  simp only at hh e1 e2 e3 h2
  unfold grow World.drewN
  simp only [World.mk.injEq]
  exact⟨hh,e2,by omega,e1,e3⟩
section
variable {α:Type} [Inhabited α] {enc:α→List Value} {k:Nat} {w:World} {Bf m:Nat} {dk:Array α} {os:Array Obj} {c:Array Value} {T:TypeId} {fr:Nat×Nat}
theorem Hz (b:Nat) (hb:b<w.heap.size) (hne:b≠Bf):(sortWorldK enc k w Bf 0 m dk os).heap[b]?=w.heap[b]?:=by
 show((w.heap.modify Bf _)++os)[b]?=_
 rw [Array.getElem?_append,if_pos (by simpa using hb),Array.getElem?_modify,if_neg (Ne.symm hne)]
theorem I3 (h:w.heap[Bf]?=some (.cells c T fr)):(sortWorldK enc k w Bf 0 m dk os).heap[Bf]?=some (.cells (putCells id 0 (flatK enc k dk) c) T fr):=by
 have hb:Bf<w.heap.size:=by
  rcases Nat.lt_or_ge Bf w.heap.size with g | g
  ·exact g
  ·rw [Array.getElem?_eq_none g] at h;cases h
 show((w.heap.modify Bf _)++os)[Bf]?=_
 rw [Array.getElem?_append,if_pos (by simpa using hb),Array.getElem?_modify,if_pos rfl,h]
 rfl
theorem Uw (hk:∀ x,(enc x).length=k) (d:Array α):flatK enc k d=(d.toList.flatMap enc).toArray:=by
 have hl:(d.toList.flatMap enc).length=d.size*k:=by
  generalize hd:d.toList=l
  have:d.size=l.length:=by rw [← hd];simp
  rw [this]
  clear this hd
  induction l with
  |nil=>simp
  |cons x l ih=>rw [List.flatMap_cons,List.length_append,ih,hk,List.length_cons,Nat.add_mul];omega
 apply Array.ext_getElem?
 intro t
 by_cases ht:t<d.size*k
 ·have hk0:0<k:=Nat.pos_of_ne_zero fun e=>by rw [e] at ht;simp at ht
  have h1:t / k<d.size:=(Nat.div_lt_iff_lt_mul hk0).2 ht
  have h2:t%k<k:=Nat.mod_lt _ hk0
  have h3:t%k<(enc d[t / k]!).length:=by rw [hk];exact h2
  have e1:(flatK enc k d)[t]?=some ((enc d[t / k]!)[t%k]!):=by
   rw [Array.getElem?_eq_getElem (by rw [size_flatK];exact ht)]
   have:=get_flatK enc k d t ht
   rw [getElem!_pos _ t (by rw [size_flatK];exact ht)] at this
   rw [this]
  rw [e1,List.getElem?_toArray]
  have h4:el d.toList (t / k)=d[t / k]!:=by simp [el,h1]
  have:=XM (f:=enc) hk (l:=d.toList) (i:=t / k) (j:=t%k) (u:=(enc d[t / k]!)[t%k]!) (by simpa using h1) (by rw [h4,List.getElem?_eq_getElem h3,getElem!_pos (enc d[t / k]!) (t%k) h3])
  rw [Nat.mul_comm,Nat.div_add_mod] at this
  exact this.symm
 ·rw [Array.getElem?_eq_none (by rw [size_flatK];omega),List.getElem?_toArray,List.getElem?_eq_none (by omega)]
theorem RO {a b rest:List Value} (h:b.length=a.length):putCells id 0 b.toArray (a++rest).toArray=(b++rest).toArray:=by
 apply Array.ext_getElem?
 intro i
 unfold putCells
 rw [Array.getElem?_mapIdx,List.getElem?_toArray,List.getElem?_toArray,List.getElem?_append,List.getElem?_append]
 by_cases hi:i<a.length
 ·have hi':i<b.length:=by omega
  rw [if_pos hi,if_pos hi',List.getElem?_eq_getElem hi,List.getElem?_eq_getElem hi']
  simp [hi']
 ·have hi':¬ i<b.length:=by omega
  rw [if_neg hi,if_neg hi',h]
  have e:¬ (0≤i∧i<0+b.toArray.size):=by simp;omega
  cases rest[i - a.length]? with
  |none=>rfl
  |some x=>simp only [Option.map_some];rw [if_neg e]
end
def AM (g:FuncId):Prop:=Enters Tryz.prog g∧∀ (w:World) (F:Gs) (a b:XO),Fits F w→SF F a→SF F b→PW a.t.2→PW b.t.2→@QS ⟨True⟩ Tryz.prog g [Ui a,Ui b] w F Unit (fun _=>.int .i64 (VC a.t.2 b.t.2)) (fun _ _=>True)
theorem AM.lays {g:FuncId} (hg:AM g) {w:World} {F:Gs} {Bf size:Nat} {c:Array Value} {T:TypeId} {fr:Nat×Nat} (hF:Fits F w) (hn:F Bf=none) (hT:T≠248) (hb:w.heap[Bf]?=some (.cells c T fr)):CmpLays Tryz.prog g #[] (Gf F) 5 (yR F) Bf 0 size w:=fun m os dk _ x y=>by
 have hf:=PU (W:=sortWorldK (Gf F) 5 w Bf 0 m dk os) hF hn hT (fun b h1 h2=>Hz b h1 h2) (I3 hb)
 have hle:=Ap (W:=sortWorldK (Gf F) 5 w Bf 0 m dk os) hF
 have:=(hg.2 _ _ x.1 y.1 hf (x.2.1.le hle) (y.2.1.le hle) x.2.2 y.2.2).2
 refine this.mono ?_
 rintro e w' ⟨_,F',rfl,hx,_⟩
 exact⟨rfl,_,_,qH (@N1.toBelow ⟨True⟩ _ _ hx) (@N1.dr ⟨True⟩ _ _ hx trivial)⟩
theorem gz {F:Gs} (x:qi F):∀ v∈Gf F x,v.oneCell'=true:=by
 intro v hv
 unfold Gf Ya at hv
 simp only [List.mem_cons,List.not_mem_nil,or_false] at hv
 rcases hv with rfl | rfl | rfl | rfl | rfl<;>rfl
variable [Dr] {w0:World} {F0:Gs} {bs:List (Nat×Obj)} {G:Gs→Prop}
theorem kC {g:FuncId} (hg:AM g) {b n cap lim:Nat} {ts:List XO} {rest:List Value} (hG:∀ F,G F→VO F ts) (hp:∀ t∈ts,PW t.t.2) (hl:ts.length=n) (hn:n<4611686018427387904) (hlim:lim<4611686018427387904) :
  J5 Tryz.prog 213 [.slice (some ⟨b,0,none⟩) n cap,.int .i64 0,.int .i64 (n:Nat),.int .i64 (lim:Nat),.func (.func g) #[] #[]] ⟨w0,F0,(b,.cells (ts.flatMap Ya++rest).toArray 165 (0,0))::bs,G⟩ (fun(_:List XO)=>.tuple #[])
   (fun ts'=>⟨w0,F0,(b,.cells (ts'.flatMap Ya++rest).toArray 165 (0,0))::bs,fun F=>G F∧ts'.Perm ts∧ts'.Pairwise (fun x y=>before y.t.2 x.t.2=false)⟩):=by
 refine⟨enters_of Tryz.func213 (by rfl) rfl,fun w hw=>?_⟩
 obtain ⟨F,h⟩:=hw
 obtain ⟨hb1,hb2,hb3⟩:=h.bx (b,_) List.mem_cons_self
 have hts:=hG F h.hG
 have hblt:b<w.heap.size:=(Array.getElem?_eq_some_iff.1 hb1).1
 have hT:(165:TypeId)≠248:=by decide
 obtain ⟨d,hd⟩:∃ d:Array (qi F),d.toList.map (·.1)=ts:=by
  refine⟨(ts.attach.map fun t=>(⟨t.1,hts t.1 t.2,hp t.1 t.2⟩:qi F)).toArray,?_⟩
  simp [List.map_map,Function.comp_def]
 have hds:d.size=n:=by rw [← hl,← hd];simp
 have hfl:∀ d:Array (qi F),flatK (Gf F) 5 d=((d.toList.map (·.1)).flatMap Ya).toArray:=fun d=>by
  rw [Uw (enc:=Gf F) (k:=5) (fun _=>rfl),List.flatMap_map];rfl
 have hH:HoldsK (Gf F) 5 w b 0 d:=by
  intro j hj
  rw [hfl,hd] at hj ⊢
  have hj':j<(ts.flatMap Ya).length:=by simpa using hj
  rw [Nat.zero_add]
  refine⟨?_,by simp [World.frozen?,hb1]⟩
  simp only [World.cell?,hb1,Option.isSome_none,Bool.false_eq_true,if_false,List.getElem?_toArray]
  rw [List.getElem?_append_left hj',List.getElem?_eq_getElem hj']
  show some _=some ((ts.flatMap Ya).toArray[j]!)
  rw [getElem!_pos (ts.flatMap Ya).toArray j (by simpa using hj')]
  simp
 have hR:RowK (Gf F) 5 w b 0 d:=⟨fun _=>rfl,fun x=>gz x,hH,hblt⟩
 have eg:=hg.1
 have hcmp:=hg.lays (size:=d.size) h.fits hb3 hT hb1
 have hs:=AnyQ.pdqsortCmpFunc_all Tryz.jS 5 (P4 Jd) (YA Jd) (Gf F) (yR F) g #[] (yk F) b 0 cap d w eg hcmp hR (d.size+1) 0 d.size lim d w (by omega) rfl (SWK.start hH) (Nat.zero_le _) (Nat.le_refl _) (by omega) hlim (Or.inl rfl)
 have hpl:=pdq_sorts (ltOf (yR F)) (yk F) d 0 d.size lim true true (Nat.zero_le _) (Nat.le_refl _) (Or.inl rfl)
 generalize pdq (ltOf (yR F)) d 0 d.size lim true true=d' at hs hpl
 obtain ⟨⟨hp1,_,hp2⟩,hso⟩:=hpl
 rw [hds] at hs
 refine hs.mono ?_
 rintro e w' ⟨rfl,m,os,rfl⟩
 have hbk:=I3 (enc:=Gf F) (k:=5) (m:=m) (dk:=d') (os:=os) hb1
 have hfit:=PU (W:=sortWorldK (Gf F) 5 w b 0 m d' os) h.fits hb3 hT (fun b h1 h2=>Hz b h1 h2) hbk
 have hle:=Ap (W:=sortWorldK (Gf F) 5 w b 0 m d' os) h.fits
 have hperm:(d'.toList.map (·.1)).Perm ts:=by
  rw [← hd]
  refine List.Perm.map _ ?_
  have e1:(d'.extract 0 d.size).toList=d'.toList:=by rw [← hp1];simp
  have e2:(d.extract 0 d.size).toList=d.toList:=by simp
  rw [e1,e2] at hp2;exact hp2
 have hcells:putCells id 0 (flatK (Gf F) 5 d') (ts.flatMap Ya++rest).toArray=((d'.toList.map (·.1)).flatMap Ya++rest).toArray:=by
  rw [hfl]
  refine RO ?_
  have:=(List.Perm.flatMap_right Ya hperm).length_eq
  exact this
 rw [hcells] at hbk
 have hsz:w.heap.size≤(sortWorldK (Gf F) 5 w b 0 m d' os).heap.size:=by
  show _≤((w.heap.modify b _)++os).size
  simp
 refine⟨d'.toList.map (·.1),rfl,Fk w F (sortWorldK (Gf F) 5 w b 0 m d' os),?_⟩
 refine⟨Gs.le_trans h.le hle,fun k hk=>?_,hfit,⟨⟨?_,?_,?_,?_,?_⟩,?_⟩,fun k hk=>?_,h.nd,fun F' hF'=>⟨h.g F' (Gs.le_trans hle hF'),hperm,?_⟩⟩
 ·have:k<w.heap.size:=Nat.lt_of_lt_of_le hk h.ext.size
  rw [Vq this];exact h.old k hk
 ·exact h.ext.os
 ·exact h.ext.tape
 ·exact h.ext.output
 ·exact Nat.le_trans h.ext.size hsz
 ·intro k hk
  have h1:k<w.heap.size:=Nat.lt_of_lt_of_le hk h.ext.size
  have h2:k≠b:=by rintro rfl;exact absurd hk (Nat.not_lt.2 hb2)
  rw [Hz k h1 h2];exact h.ext.block k hk
 ·intro hd
  exact Nat.le_trans (h.ext.dr hd) (Nat.le_add_right _ _)
 ·rcases List.mem_cons.1 hk with rfl | hk
  ·exact⟨hbk,hb2,by rw [Vq hblt];exact hb3⟩
  ·obtain ⟨g1,g2,g3⟩:=h.bx k (List.mem_cons_of_mem _ hk)
   have h1:k.1<w.heap.size:=(Array.getElem?_eq_some_iff.1 g1).1
   have h2:k.1≠b:=by
    have:=h.nd
    simp only [List.map_cons] at this
    have:=(List.nodup_cons.1 this).1
    rintro e
    exact this (e ▸ List.mem_map_of_mem (f:=(·.1)) hk)
   exact⟨by rw [Hz k.1 h1 h2];exact g1,g2,by rw [Vq h1];exact g3⟩
 ·rw [List.pairwise_map,List.pairwise_iff_getElem]
  intro i j hi hj hij
  have hi':i<d'.size:=by simpa using hi
  have hj':j<d'.size:=by simpa using hj
  have:=hso i j (Nat.zero_le _) hij (by omega)
  rw [gD,getElem!_pos _ i hi',getElem!_pos _ j hj'] at this
  simpa using this
end
section
open Go.RowKit Ig
section
variable [Dr] {w0:World} {F0:Gs} {bs:List (Nat×Obj)} {G:Gs→Prop}
theorem IL {w:World} {F:Gs} (hF:Fits F w) {n:Nat} (h:n<4611686018427387904):QZ Tryz.prog 214 [.int .u64 (n:Nat)] w F (.int .i64 (Lib.bitLen n:Nat)) :=
 QS.same (enters_of Tryz.func214 (by rfl) rfl) hF (by
  have:=Tryz.bits_Len (n:Nat) w (by omega) (by omega)
  rwa [Int.toNat_natCast] at this)
theorem OW:∀ {ts:List XO},ts.flatMap Ya=[]→ts=[]
 |[],_=>rfl
 |t::l,h=>by rw [List.flatMap_cons] at h;simp [Ya] at h
theorem xP {g:FuncId} (hg:AM g) {n lim:Nat} {v:Value} {ts:List XO} {ob:List (Nat×Obj)} (hr:Q3 165 5 v n (ts.flatMap Ya) ob) (hG:∀ F,G F→VO F ts) (hp:∀ t∈ts,PW t.t.2) (hl:ts.length=n) (hn:n<4611686018427387904) (hlim:lim<4611686018427387904) :
  J5 Tryz.prog 213 [v,.int .i64 0,.int .i64 (n:Nat),.int .i64 (lim:Nat),.func (.func g) #[] #[]] ⟨w0,F0,ob++bs,G⟩ (fun(_:List XO×List (Nat×Obj))=>.tuple #[])
   (fun c=>⟨w0,F0,c.2++bs,fun F=>G F∧Q3 165 5 v n (c.1.flatMap Ya) c.2∧c.1.Perm ts∧c.1.Pairwise (fun x y=>before y.t.2 x.t.2=false)⟩):=by
 generalize hcs:ts.flatMap Ya=cs at hr
 cases hr with
 |nil =>
  have:=OW hcs
  subst this
  refine⟨enters_of Tryz.func213 (by rfl) rfl,fun w hw=>?_⟩
  refine(AnyF.pdqsortCmpFunc_none Tryz.jS none 0 (lim:Nat) (.func (.func g) #[] #[]) w).mono ?_
  rintro e w' ⟨rfl,rfl⟩
  exact⟨([],[]),rfl,hw.BL fun F h=>⟨h,.nil,List.Perm.refl _,List.Pairwise.nil⟩⟩
 |some h1 h2 h3 h4 =>
  rename_i b cap rest
  subst hcs
  have h:=kC (w0:=w0) (F0:=F0) (bs:=bs) (G:=G) hg (b:=b) (n:=n) (cap:=cap) (lim:=lim) (ts:=ts) (rest:=rest) hG hp hl hn hlim
  refine⟨h.1,fun w hw=>(h.2 w hw).mono ?_⟩
  rintro e w' ⟨ts',rfl,hw'⟩
  refine⟨(ts',[(b,.cells (ts'.flatMap Ya++rest).toArray 165 (0,0))]),rfl,hw'.BL fun F ⟨hG',hpm,hpw⟩=>⟨hG',?_,hpm,hpw⟩⟩
  have hlen:(ts'.flatMap Ya).length=(ts.flatMap Ya).length:=(List.Perm.flatMap_right Ya hpm).length_eq
  exact .some (by rw [hlen];exact h1) (by rw [hlen];exact h2) h3 h4
theorem I9 {g:FuncId} (hg:AM g) {n:Nat} {v:Value} {ts:List XO} {ob:List (Nat×Obj)} (hr:Q3 165 5 v n (ts.flatMap Ya) ob) (hG:∀ F,G F→VO F ts) (hp:∀ t∈ts,PW t.t.2) (hl:ts.length=n) (hn:n<4611686018427387904) :
  J5 Tryz.prog 134 [v,.func (.func g) #[] #[]] ⟨w0,F0,ob++bs,G⟩ (fun(_:List XO×List (Nat×Obj))=>.tuple #[])
   (fun c=>⟨w0,F0,c.2++bs,fun F=>G F∧Q3 165 5 v n (c.1.flatMap Ya) c.2∧c.1.Perm ts∧c.1.Pairwise (fun x y=>before y.t.2 x.t.2=false)⟩):=by
 refine J5.intro Tryz.func134 rfl (by rfl) rfl rfl<|J_sr<|JS_mv rfl<|QA (Sq rfl hr J1)<|JS_as rfl<|JS_nt<|QB<|JS_mv rfl<|JS_mv rfl<|JS_mv rfl<|QA (Ak rfl yb je (by omega))<|QI rfl (fun w F hF _=>IL hF hn) (fun _=>JS_mv rfl<|XJ rfl (List.Perm.refl _) (xP hg hr (fun F h=>hG F h.1) hp hl hn (Nat.lt_of_le_of_lt (Lib.bitLen_le n 62 (by omega) (by omega)) (by omega))) (fun c=>QE<|DQ ?_))
 exact Yn (c) rfl .nil (rfl) (fun w h=>h.BL fun F h=>⟨h.1.1,h.2⟩)
end
end
section
open Go.RowKit Ig
theorem GN:∀ (n:Nat) (l:List Nat),l.Nodup→(∀ j∈l,j<n)→l.length≤n
 |0,l,_,h=>by
  cases l with
  |nil=>exact Nat.le_refl _
  |cons x l=>exact absurd (h x List.mem_cons_self) (Nat.not_lt_zero _)
 |n+1,l,hn,h=>by
  have h1:=GN n (l.erase n) (hn.erase n) fun j hj=>by
   have h2:=(hn.mem_erase_iff).1 hj
   have h3:=h j h2.2
   have h4:=h2.1
   omega
  rw [List.length_erase] at h1
  split at h1<;>omega
theorem PD {n j:Nat} {l:List Nat} (hn:l.Nodup) (h:∀ j∈l,j<n) (hj:j<n) (hjn:j∉l):(l++[j]).Nodup∧(∀ i∈l++[j],i<n)∧l.length<n:=by
 have h1:(l++[j]).Nodup:=by
  rw [List.nodup_append]
  exact⟨hn,by simp,fun a ha b hb=>by rw [List.mem_singleton.1 hb];rintro rfl;exact hjn ha⟩
 have h2:∀ i∈l++[j],i<n:=fun i hi=>by
  rcases List.mem_append.1 hi with hi | hi
  ·exact h i hi
  ·rw [List.mem_singleton.1 hi];exact hj
 have h3:=GN n _ h1 h2
 rw [List.length_append] at h3
 exact⟨h1,h2,by simp at h3;omega⟩
theorem Sf {n:Nat} {l:List Nat} (hn:l.Nodup) (h:∀ j∈l,j<n) (ha:∀ j,j<n→j∈l):l.Perm (List.range n) :=
 (List.perm_ext_iff_of_nodup hn List.nodup_range).2 fun a=>by rw [List.mem_range];exact⟨h a,ha a⟩
theorem BH {α:Type} [Inhabited α] (l:List α):(List.range l.length).map (el l)=l:=by
 apply List.ext_getElem?
 intro i
 by_cases h:i<l.length
 ·rw [List.getElem?_map,List.getElem?_range h,List.getElem?_eq_getElem h];simp [Za h]
 ·rw [List.getElem?_eq_none (by simp;omega),List.getElem?_eq_none (by omega)]
def Jm (F:Gs) (s:Sr) (ts:List XO) (p:List Tm):Prop:=Q9 F s.q s.n 5 (ts.flatMap Ya)∧VO F ts∧JF ts=p∧s.n≤s.cap∧ts.length=s.n
theorem Jm.le {F F':Gs} {s:Sr} {ts:List XO} {p:List Tm} (h:Jm F s ts p) (k:Gs.le F F'):Jm F' s ts p:=⟨h.1.le k,h.2.1.le k,h.2.2⟩
def An (ts:List XO):List XO:=ts.filter fun t=>decide (t.t.1≠0)
theorem S2 (ts:List XO) (t:XO):An (ts++[t])=An ts++(if t.t.1≠0 then [t] else []):=by
 unfold An;rw [List.filter_append];congr 1
 by_cases h:t.t.1=0
 ·simp [h]
 ·simp [h]
structure vA (ts:List XO) where
 seen:List Nat
 v:Value
 n:Nat
 ob:List (Nat×Obj)
 hr:Q3 165 5 v n ((An (seen.map (el ts))).flatMap Ya) ob
 nd:seen.Nodup
 lt:∀ j∈seen,j<ts.length
 hn:(An (seen.map (el ts))).length=n
theorem Av (ts:List XO):(WX ts).length=ts.length:=by simp [WX]
theorem Od:AM 253:=⟨enters_of Tryz.func253 (by rfl) rfl,fun w F a b hF hA hB pa pb=>@Cg ⟨True⟩ w F a b hF hA hB pa pb⟩
theorem H8 {r:Rat}:EP r.num=0↔r=0:=by
 unfold EP
 constructor
 ·intro h
  apply Rat.num_eq_zero.1
  split at h
  ·omega
  ·split at h<;>omega
 ·rintro rfl;rfl
theorem I4 {ts os:List XO} {l:List Tm} {seen:List Nat} (hI:Ko ts l) (hn:seen.Nodup) (hlt:∀ j∈seen,j<ts.length) (hall:∀ j,j<ts.length→j∈seen) (hp:os.Perm (An (seen.map (el ts)))) (hs:os.Pairwise fun x y=>before y.t.2 x.t.2=false):JF os=XC l:=by
 have h1:os.Perm (An ts):=by
  refine hp.trans ?_
  unfold An
  refine List.Perm.filter _ ?_
  have:=(Sf hn hlt hall).map (el ts)
  rwa [BH] at this
 have h2:(JF os).Perm ((JF ts).filter fun t=>decide (t.1≠0)):=by
  have:=h1.map XO.t
  unfold An at this
  have e:(ts.filter fun t=>decide (t.t.1≠0)).map XO.t=(ts.map XO.t).filter fun t=>decide (t.1≠0):=by
   rw [List.filter_map];rfl
  rw [e] at this;exact this
 refine hI.T4.norm h2 ?_
 have hnd:((JF os).map (·.2)).Nodup:=by
  have h3:((JF os).map (·.2)).Perm (((JF ts).filter fun t=>decide (t.1≠0)).map (·.2)):=h2.map _
  rw [h3.nodup_iff]
  exact(List.filter_sublist.map _).nodup hI.T4.nd
 unfold JF at hnd ⊢
 rw [List.pairwise_map]
 rw [List.map_map] at hnd
 have hnd2:=List.pairwise_map.1 hnd
 refine(hs.and hnd2).imp ?_
 rintro x y ⟨h1,h2⟩
 rcases Y1 x.t.2 y.t.2 with e | e | e
 ·exact absurd e h2
 ·exact e
 ·rw [h1] at e;cases e
theorem Um {ts:List XO} {seen:List Nat} (hlt:∀ j∈seen,j<ts.length) {t:XO} (h:t∈An (seen.map (el ts))):t∈ts:=by
 have:=(List.mem_filter.1 h).1
 obtain ⟨j,hj,e⟩:=List.mem_map.1 this
 rw [← e];exact Jc (hlt j hj)
theorem L3 {ts:List XO} {seen:List Nat} {j:Nat} {t:XO} (e:el ts j=t) (h:t.t.1≠0):An ((seen++[j]).map (el ts))=An (seen.map (el ts))++[t]:=by
 rw [List.map_append,List.map_cons,List.map_nil,e,S2,if_pos h]
theorem jX {ts:List XO} {seen:List Nat} {j:Nat} {t:XO} (e:el ts j=t) (h:t.t.1=0):An ((seen++[j]).map (el ts))=An (seen.map (el ts)):=by
 rw [List.map_append,List.map_cons,List.map_nil,e,S2,if_neg (not_not_intro h),List.append_nil]
theorem RV (t:XO):∀ v∈Ya t,v.oneCell'=true:=by
 intro v hv
 unfold Ya at hv
 simp only [List.mem_cons,List.not_mem_nil,or_false] at hv
 rcases hv with rfl | rfl | rfl | rfl | rfl<;>rfl
section
variable {w0:World} {F0:Gs} {bs:List (Nat×Obj)} {G:Gs→Prop}
theorem GD {m:Nat} {ts:List XO} {l:List Tm} (hI:Ko ts l) (hlen:ts.length≤1000000000) (hG:∀ F,G F→VO F ts) :
  J5 Tryz.prog 211 [.map (some m)] ⟨w0,F0,(m,X3 tx (WX ts))::bs,G⟩ (fun(c:Sr×List XO)=>c.1.v) (fun c=>⟨w0,F0,(m,X3 tx (WX ts))::bs,fun F=>G F∧Jm F c.1 c.2 (XC l)⟩):=by
 refine J5.intro Tryz.func211 rfl (by rfl) rfl rfl<|R8 hG<|J_sr<|JS_as rfl<|JS_nt<|J_sr<|JS_as rfl<|JS_nt<|QG<|J_sr<|JS_mv rfl<|D6 rfl Mk .here (fun b7=>JS_nt<|Qa<|Jz (ι:=vA ts) [(7,_)] (fun i=>[(3,i.v)]) (fun i=>(b7,Ay m (WX ts).length i.seen)::(m,X3 tx (WX ts))::(i.ob++bs)) (fun i F=>True) (fun i=>ts.length - i.seen.length) (⟨[],_,0,[],.nil,List.nodup_nil,(fun _ h=>by cases h),rfl⟩) ⟨rfl,trivial⟩ ⟨rfl,trivial⟩ subl_r (fun _ _=>trivial) (fun i=>?_))
 simp only [List.cons_append,List.nil_append]
 have hn0:i.n≤i.seen.length:=by rw [← i.hn];exact Nat.le_trans (List.length_filter_le _ _) (by simp)
 refine J_sr<|NR (kv:=WX ts) (K:=tx) (b:=m) rfl .here (.there .here) (fun x hx=>QA (QM rfl (jY x))<|JS_nt<|QG ?_)
 refine QR rfl (fun hc=>?_) (fun hc=>?_)
 ·
  obtain ⟨j,rfl⟩:∃ j,x=some j:=by
   cases x with
   |none=>cases hc
   |some j=>exact⟨j,rfl⟩
  obtain ⟨hj,hjn⟩:=hx
  rw [Av] at hj
  obtain ⟨hs1,hs2,hs3⟩:=PD i.nd i.lt hj hjn
  have htm:=Jc hj
  have hkj:(WX ts)[j]?=some (Yb (el ts j).t.2,Ui (el ts j)):=by rw [WX,List.getElem?_map,List.getElem?_eq_getElem hj,Za hj];rfl
  generalize hte:el ts j=t at htm hkj
  refine QP<|QC<|Qa<|J_sr<|QA (Aj (kv:=WX ts) (K:=tx) (p:=(Yb t.t.2,Ui t)) rfl .here (.there .here) hkj)<|QA (QM rfl rfl)<|Qb ZW (fun b5=>QN (vs:=[_,_,_,_,_]) rfl rfl rfl Jd rfl .here (.here (.here (.here (.here (.here .nil))))) ⟨rfl,rfl,rfl,rfl,rfl,trivial⟩<|JS_nt<|J_sr<|QA (QH rfl Z0 Qc)<|QA (QJ (vs:=[_,_,_,_]) rfl Qc .here (.here (.here (.here (.here .nil)))) rfl)<|QI rfl (fun w F hF ⟨⟨hG0,hT⟩,_⟩=>GP hF ((hT t htm).1)) (fun _=>QA (QV rfl rfl rfl)<|QE<|QC ?_))
  refine QR rfl (fun hc=>?_) (fun hc=>?_)
  ·
   have hnz:t.t.1≠0:=fun e=>by rw [e] at hc;cases hc
   refine QB<|JS_mv rfl<|QA (QJ (vs:=[_,_,_,_,_]) rfl Jd .here (.here (.here (.here (.here (.here .nil))))) rfl)<|QU rfl (Q6 J1) Jd ZW rfl rfl (fun b18=>X7 (bs':=(_::_::_::bs)++i.ob) (.cons _ (.cons _ (.cons _ List.perm_append_comm))) ?_)
   refine VI (ob:=i.ob) (k:=1) (sz:=5) (news:=Ya t) rfl rfl J1 Jd ZW rfl AG i.hr (Src.row (off:=0) (fun F ⟨⟨⟨hG0,hT⟩,_⟩,hs18⟩=>hs18) (fun j v hv=>by rw [Nat.zero_add];show((Ya t).toArray)[j]?=some v;rw [List.getElem?_toArray];exact hv) rfl) (by omega) (by omega) (RV t) (fun v19 ob19 hr19=>?_)
   refine X7 (bs':=_::_::_::(ob19++bs)) (.cons _ (.cons _ (.cons _ List.perm_append_comm)))<|JS_as rfl<|QE<|Qk ?_
   exact Qo (⟨i.seen++[j],v19,i.n+1,ob19,by rw [L3 hte hnz,List.flatMap_append];simpa using hr19,hs1,hs2,by rw [L3 hte hnz,List.length_append,i.hn];rfl⟩) (by show _ - (i.seen++[j]).length<_;rw [List.length_append];simp only [List.length_singleton];omega) ⟨rfl,rfl,trivial⟩ (.cons _ subl_r) (fun F h=>⟨h.1.1.1,trivial⟩)
  ·
   have hz:t.t.1=0:=H8.1 (by simpa using hc)
   refine QP<|Qk ?_
   exact Qo (⟨i.seen++[j],i.v,i.n,i.ob,by rw [jX hte hz];exact i.hr,hs1,hs2,by rw [jX hte hz];exact i.hn⟩) (by show _ - (i.seen++[j]).length<_;rw [List.length_append];simp only [List.length_singleton];omega) ⟨rfl,rfl,trivial⟩ (.cons _ subl_r) (fun F h=>⟨h.1.1,trivial⟩)
 ·
  obtain rfl:x=none:=by
   cases x with
   |none=>rfl
   |some j=>cases hc
  rw [show dA (WX ts).length i.seen none=∀ j,j<(WX ts).length→j∈i.seen from rfl,Av] at hx
  refine Q5 ?_
  repeat (first | refine Qd ?_ | refine QW (by rfl) ?_)
  refine Qe<|QC<|J_sr<|JS_mv rfl<|XJ rfl (List.perm_middle.trans (.cons _ List.perm_middle)).symm (I9 Od i.hr (fun F ⟨⟨hG0,hT⟩,_⟩ t ht=>hT t (Um i.lt ht)) (fun t ht=>hI.pw t (Um i.lt ht)) i.hn (by have:=GN _ _ i.nd i.lt;omega)) (fun c=>JK _ (fun w F hF h=>h.2) (fun hso=>?_))
  obtain ⟨r,hv,hrn,hrc,hfix⟩:=Q3.fix (w0:=w0) (F0:=F0) (bs1:=(b7,Ay m (WX ts).length (kH i.seen none))::(m,X3 tx (WX ts))::bs) (G:=_) hso.1
  refine X7 List.perm_append_comm<|DN hfix ?_
  rw [hv]
  refine JS_nt<|J_sr<|JS_mv rfl<|JS_as rfl<|JS_nt<|QT ?_
  exact Yn (⟨r,c.1⟩) rfl (.tmp rfl .nil) (rfl) (fun w h=>St.imp h (.cons _ subl_r) (fun F ⟨⟨⟨⟨hG0,hT⟩,_⟩,_⟩,hrow⟩=>⟨hG0,by rw [hrn];exact hrow,fun t ht=>hT t (Um i.lt (hso.2.1.mem_iff.1 ht)),I4 hI i.nd i.lt hx hso.2.1 hso.2.2,by rw [hrn];exact hrc,hso.2.1.length_eq.trans (i.hn.trans hrn.symm)⟩))
end
end
section
open Go.RowKit Ig
section
variable [Dr] [df:Df] {P:Program} {N:Nat} {m:Sl} {w0:World} {F0:Gs} {bs:List (Nat×Obj)} {G:Gs→Prop}
theorem CX {T yT ty e:TypeId} {x y:Operand} {q:Option Addr} {n c:Nat} {Y:World→Prop} (hx:ev m x=some (.slice q n c)) (hy:ev m y=some (.slice none 0 0)) (hT:Hp P T=some e):Qt P N m Y (.binOp .eql T x y yT) ty (.bool q.isNone):=fun a w _ _ _ _ ha _=>by
 have:=Lib.run_eql_slice_nil (P:=P) w T e q n c 0 0 (Q6 hT)
 simp [execOp,ha.ev hx,ha.ev hy,eqGuard,this]
theorem Src.gk {sz k c:Nat} {a:Addr} {news:List Value} (hr:∀ F,G F→Q9 F (some a) k sz news) (hl:news.length=k*sz):Src ⟨w0,F0,bs,G⟩ sz (.slice (some a) k c) k news:=by
 refine⟨hl,.inr ⟨a,c,rfl,fun w hw j v hv=>?_⟩⟩
 have hk:0<k:=by
  rcases Nat.eq_zero_or_pos k with h | h
  ·rw [h,Nat.zero_mul] at hl;rw [List.length_eq_zero_iff.1 hl] at hv;simp at hv
  ·exact h
 obtain ⟨F,h⟩:=id hw
 obtain ⟨b,off,_,_,e,_,_⟩:=(hr F h.hG).2 hk
 cases e
 rw [VE];exact Kj hw hr hk hv
theorem L1 {F:Gs} {n c:Nat} {l:List Int} (h:JP F ⟨none,n,c⟩ l):Q3 3 1 (.slice none 0 0) n (l.map Qx) []:=by
 obtain ⟨⟨_,h1⟩,h2,_⟩:=h
 have h0:n=0:=by
  rcases Nat.eq_zero_or_pos n with h | h
  ·exact h
  ·obtain ⟨_,_,_,_,e,_⟩:=h1 h;cases e
 subst h0
 rw [List.length_eq_zero_iff.1 h2];exact .nil
theorem qE (l:List Int):∀ v∈l.map Qx,v.oneCell'=true:=by
 intro v hv
 obtain ⟨x,_,rfl⟩:=List.mem_map.1 hv
 rfl
end
section
variable {w0:World} {F0:Gs} {bs:List (Nat×Obj)} {G:Gs→Prop}
theorem Ry {r:Sr} {l:List Int} (hG:∀ F,G F→JP F r l) (hn:l.length=r.n) (hl:l.length≤1000000000) :
  J5 Tryz.prog 133 [r.v] ⟨w0,F0,bs,G⟩ (fun(c:Value×List (Nat×Obj))=>c.1) (fun c=>⟨w0,F0,bs++c.2,fun F=>G F∧Q3 3 1 c.1 r.n (l.map Qx) c.2⟩):=by
 obtain ⟨q,n,c⟩:=r
 dsimp only [Sr.v] at hn ⊢
 refine J5.intro Tryz.func133 rfl (by rfl) rfl rfl<|R8 hG<|J_sr<|JS_as rfl<|JS_nt<|QG<|J_sr<|JS_mv rfl<|QA (CX rfl rfl Qf)<|QE<|QC ?_
 refine QR rfl (fun hc=>?_) (fun hc=>?_)
 ·
  obtain rfl:q=none:=by
   cases q with
   |none=>rfl
   |some a=>cases hc
  refine J_sr<|JS_as rfl<|JS_nt<|QT ?_
  exact Yn (⟨.slice none 0 0,[]⟩) rfl (.tmp rfl .nil) (rfl) (fun w h=>St.imp h (by simp) (fun F ⟨hG0,hR⟩=>⟨hG0,L1 hR⟩))
 ·
  obtain ⟨a,rfl⟩:∃ a,q=some a:=by
   cases q with
   |none=>cases hc
   |some a=>exact⟨a,rfl⟩
  refine QP<|QC<|J_sr<|W8 (Q6 Qf) Qp (fun b5=>JS_mv rfl<|X7 (bs':=bs++[(b5,.cells ([]++[]:List Value).toArray 3 (0,0))]) (List.perm_append_comm (l₁:=[_]))<|VI (ob:=[(b5,.cells ([]++[]:List Value).toArray 3 (0,0))]) (n:=0) (k:=n) (sz:=1) (news:=l.map Qx) rfl rfl Qf Qp VQ rfl DF (.some rfl rfl (Nat.le_refl _) (by decide)) (Src.gk (fun F hG=>hG.2.1) (by simp [hn])) (by omega) (by omega) (qE l) (fun v7 ob7 hr7=>?_))
  rw [Nat.zero_add,List.nil_append] at hr7
  refine JS_as rfl<|JS_nt<|QT ?_
  exact Yn (⟨v7,ob7⟩) rfl (.tmp rfl .nil) (rfl) (fun w h=>St.imp h subl_r (fun F ⟨hG0,hR⟩=>⟨hG0,hr7⟩))
end
end
section
open Go.RowKit Ig
structure GA where
 f:List UInt8
 r:Sr
 k:List Int
instance :Inhabited GA:=⟨⟨[],⟨none,0,0⟩,[]⟩⟩
def WQ (t:GA):List Value:=[tx t.f,.slice t.r.q t.r.n t.r.cap]
theorem VY (t:GA):(WQ t).length=2:=rfl
def Yc (F:Gs) (ts:List GA):Prop:=∀ t∈ts,JP F t.r t.k
theorem Yc.le {F F':Gs} {ts:List GA} (h:Yc F ts) (k:Gs.le F F'):Yc F' ts:=fun t ht=>(h t ht).le k
def O3 (t:GA):Tm:=(Ju t.f,t.k)
structure kz (ps:List GA) where
 i:Nat
 ts:List XO
 le:i≤ps.length
 hI:Ko ts ((ps.take i).map O3)
theorem I0 (l:List Tm) (i:Nat):Zb (l.take i)≤Zb l:=by
 have:=Xb (l.take i) (l.drop i)
 rw [List.take_append_drop] at this;omega
theorem Hw {l:List Tm} {t:Tm} (h:t∈l):JL t.1≤Zb l:=by
 induction l with
 |nil=>cases h
 |cons x l ih =>
  have e:Zb (x::l)=JL x.1+1+Zb l:=by unfold Zb;rw [List.map_cons,List.sum_cons]
  rcases List.mem_cons.1 h with rfl | h
  ·omega
  ·have:=ih h;omega
section
variable {P:Program} {w:World} {F:Gs} {f:FuncId} {args:List Value} {γ:Type} {val:γ→Value} {fact:γ→Gs→Prop}
theorem J5.p4 [Dr] {G0:Gs→Prop} {E':γ→Env} (h:J5 P f args ⟨w,F,[],G0⟩ val E') (hF:Fits F w) (hg:∀ F',Gs.le F F'→G0 F') (he:∀ c w',St (E' c) w'→St ⟨w,F,[],fun F=>fact c F⟩ w'):QS P f args w F val fact:=by
 refine⟨h.1,(h.2 w (St.start hF hg)).mono ?_⟩
 rintro e w' ⟨c,rfl,hw⟩
 obtain ⟨F',h'⟩:=he c w' hw
 exact⟨c,F',rfl,h'.ext,h'.le,h'.old,h'.fits,h'.g⟩
theorem Rx {r:Sr} {l:List Int} (hF:Fits F w) (hR:JP F r l) (hl:l.length≤1000000000):QS Tryz.prog 133 [r.v] w F (fun(c:Sr)=>c.v) (fun c F=>JP F c l):=by
 have h:=Ry (w0:=w) (F0:=F) (bs:=[]) (G:=fun F'=>Gs.le F F') (r:=r) (l:=l) (fun F' h=>hR.le h) hR.2.1 hl
 refine⟨h.1,(h.2 w (St.start hF fun _ h=>h)).mono ?_⟩
 rintro e w' ⟨⟨v,ob⟩,rfl,hw⟩
 obtain ⟨F1,h1⟩:=id hw
 have ho:=(h1.hG).2
 dsimp only at ho hw
 obtain ⟨s,hv,hsn,hsc,hfix⟩:=Q3.fix (w0:=w) (F0:=F) (bs1:=[]) ho
 obtain ⟨F',h'⟩:=hfix w' hw
 exact⟨s,F',by rw [hv],h'.ext,h'.le,h'.old,h'.fits,fun F'' hle=>⟨by rw [hsn];exact(h'.g F'' hle).2,by rw [hsn];exact hR.2.1,by rw [hsn];exact hsc⟩⟩
end
section
theorem Cd {w:World} {F:Gs} {r:Sr} {ps:List GA} (hF:Fits F w) (hGl:JB F) (hR:Q9 F r.q r.n 2 (ps.flatMap WQ)) (hP:Yc F ps) (hn:ps.length=r.n) (hl:ps.length≤100000) (hv:∀ t∈ps,Jy t.f=0∧t.f.length≤1000000∧PW t.k) (hz:Zb (ps.map O3)≤40000000) :
  QS Tryz.prog 130 [r.v] w F (fun(c:Sr×List XO)=>c.1.v) (fun c F=>Jm F c.1 c.2 (XC (ps.map O3))):=by
 obtain ⟨q,n,cap⟩:=r
 dsimp only [Sr.v] at hn hR ⊢
 refine QS.intro (G:=fun F=>JB F∧Q9 F q n 2 (ps.flatMap WQ)∧Yc F ps) Tryz.func130 rfl (by rfl) rfl rfl hF (fun F' hF'=>⟨hGl.le hF',hR.le hF',hP.le hF'⟩)<|J_sr<|JS_as rfl<|JS_nt<|J_sr<|VH tx (fun m=>JS_as rfl<|JS_nt<|QG<|J_sr<|JS_mv rfl<|QA (Ql rfl Zh)<|JS_mv rfl<|JS_nt<|Qa<|Jz (ι:=kz ps) [(3,_),(7,_),(8,_)] (fun i=>[(9,.int .i64 ((i.i:Nat):Int))]) (fun i=>[(m,X3 tx (WX i.ts))]) (fun i F=>VO F i.ts) (fun i=>ps.length - i.i) (⟨0,[],Nat.zero_le _,Ko.nil⟩) ⟨rfl,rfl,rfl,trivial⟩ ⟨rfl,trivial⟩ subl_r (fun _ _ _ h=>by cases h) (fun i=>?_))
 simp only [List.cons_append,List.nil_append]
 have hi:=i.le
 refine J_sr<|QA (QV rfl rfl rfl)<|JS_nt<|QG ?_
 refine QR rfl (fun hc=>?_) (fun hc=>?_)
 ·
  have hlt:i.i<ps.length:=by have:=dec_t hc;omega
  have hv1:=hv _ (Jc hlt)
  have hz1:=I0 (ps.map O3) i.i
  rw [← List.map_take] at hz1
  have hz2:JL (O3 (el ps i.i)).1≤Zb (ps.map O3):=Hw (List.mem_map_of_mem (Jc hlt))
  dsimp only [O3] at hz2
  have hl1:=hv1.2.2.2
  refine QP<|QC<|QG<|Qa<|J_sr<|QA (Ja (n:=n) (i.i) (fun F ⟨⟨hGl,hR,hP⟩,hT⟩=>hR) rfl rfl Zh Xr (by omega))<|QA (X2 (n:=n) (vs:=[tx (el ps (i.i)).f,.slice (el ps (i.i)).r.q (el ps (i.i)).r.n (el ps (i.i)).r.cap]) ((i.i)*2) (fun F ⟨⟨hGl,hR,hP⟩,hT⟩=>hR) (by omega) rfl Xr rfl (fun j v hv=>XM (f:=WQ) (l:=ps) VY (by omega) hv))<|Qb Xe (fun b5=>QN (vs:=[_,_]) rfl rfl rfl Xr rfl .here (.here (.here .nil)) ⟨rfl,rfl,trivial⟩<|JS_nt<|JN (.cons_cons _ (.cons _ .slnil)) mixed (by kernel_rfl)<|QK (QD rfl)<|QK (QH rfl BS JR)<|QK (Qj rfl JR .here (.here .nil))<|QY rfl (fun w F hF ⟨⟨hGl,hR,hP⟩,hT⟩=>He hF hGl ((Zj (hv _ (Jc hlt)).1).1) (by have:=(hv _ (Jc hlt)).2.1;omega)) (fun x16=>QK (QH rfl WI Qz)<|QK (Qj rfl Qz .here (.skip (.here .nil)))<|QY rfl (fun w F hF ⟨⟨⟨hGl,hR,hP⟩,hT⟩,_⟩=>Rx hF (r:=(el ps i.i).r) (hP _ (Jc hlt)) (by omega)) (fun c19=>T0 rfl (List.Perm.swap _ _ _) (H2 (r:=c19) (x:=x16) i.hI hv1.2.2 (by omega) (by omega) (fun F ⟨⟨⟨⟨hGl,hR,hP⟩,hT⟩,h16⟩,VV⟩=>⟨hGl,hT,h16,VV⟩)) (fun n w h=>St.imp h (.cons _ subl_r) (fun F h=>h.1.1.1)) (fun n20=>E4 _ (fun w F hF h=>h.2.2) (fun h20=>?_)))))
  have hI2:Ko (addN i.ts n20) ((ps.take (i.i+1)).map O3):=by
   have:=i.hI.add hv1.2.2 h20
   rw [ZD hlt,List.map_append];exact this
  refine Q4<|Qk<|QC<|QB<|QA (Qu rfl rfl (by omega))<|JS_mv rfl<|QE ?_
  exact Qo (⟨i.i+1,addN i.ts n20,hlt,hI2⟩) (by show ps.length - (i.i+1)<ps.length - i.i;omega) ⟨rfl,rfl,rfl,rfl,trivial⟩ (.cons_cons _ (.cons _ .slnil)) (fun F h=>⟨h.1.1.1.1,h.2.1⟩)
 ·
  have hge:i.i=ps.length:=by have:=dec_f hc;omega
  refine Q5 ?_
  repeat (first | refine Qd ?_ | refine QW (by rfl) ?_)
  refine Qe<|QC<|J_sr<|JS_mv rfl ?_
  have hI:=i.hI
  rw [hge,List.take_length] at hI
  refine XJ rfl (List.Perm.refl _) (GD hI (by have:=hI.ln;rw [List.length_map] at this;omega) (fun F h=>h.2)) (fun c23=>JS_as rfl<|JS_nt<|QT ?_)
  exact QQ (c23) rfl (.tmp rfl .nil) (rfl) (fun F h=>h.2)
end
end
section
open Go.RowKit Ig
abbrev Wd:=Sr×List XO
instance :Inhabited Wd:=⟨(⟨none,0,0⟩,[])⟩
def Tt (F:Gs) (ls:List Wd):Prop:=∀ e∈ls,Jm F e.1 e.2 (JF e.2)
theorem Tt.le {F F':Gs} {ls:List Wd} (h:Tt F ls) (k:Gs.le F F'):Tt F' ls:=fun e he=>(h e he).le k
def Bh (ls:List Wd):List Tm:=ls.flatMap fun e=>JF e.2
structure dy (ls:List Wd) where
 i:Nat
 ts:List XO
 le:i≤ls.length
 hI:Ko ts (Bh (ls.take i))
structure Bp (l0:List Tm) (te:List XO) where
 j:Nat
 ts:List XO
 le:j≤te.length
 hI:Ko ts (l0++JF (te.take j))
theorem Xk {te:List XO} {j:Nat} (h:j<te.length):JF (te.take (j+1))=JF (te.take j)++[(el te j).t]:=by unfold JF;rw [ZD h,List.map_append];rfl
theorem CN {a b c:List Tm} (e:a++b=c):Zb a≤Zb c:=by rw [← e,Xb];omega
theorem IQ {ls:List Wd} {i:Nat} (h:i<ls.length):Bh (ls.take (i+1))=Bh (ls.take i)++JF (el ls i).2:=by unfold Bh;rw [ZD h,List.flatMap_append];simp
theorem qe {ls:List Wd} {i j:Nat} (h:i<ls.length):Zb (Bh (ls.take i)++JF ((el ls i).2.take j))≤Zb (Bh ls):=by
 have e1:Bh ls=Bh (ls.take i)++(JF (el ls i).2++Bh (ls.drop (i+1))):=by
  have:ls=ls.take i++el ls i::ls.drop (i+1):=by rw [← Ec h,List.take_append_drop]
  unfold Bh
  conv=>lhs;rw [this]
  rw [List.flatMap_append,List.flatMap_cons]
 have e2:JF (el ls i).2=JF ((el ls i).2.take j)++JF ((el ls i).2.drop j):=by unfold JF;rw [← List.map_append,List.take_append_drop]
 have h1:=congrArg Zb e1
 have h2:=congrArg Zb e2
 rw [Xb,Xb] at h1
 rw [Xb] at h2
 rw [Xb];omega
theorem xR {w:World} {F:Gs} {p q:Wd} (hF:Fits F w) (hGl:JB F) (hP:Jm F p.1 p.2 (JF p.2)) (hQ:Jm F q.1 q.2 (JF q.2)) (hp:(∀ t∈p.2,PW t.t.2)∧∀ t∈q.2,PW t.t.2) (hl:p.2.length≤400000000∧q.2.length≤400000000) (hz:Zb (JF p.2++JF q.2)≤40000000) :
  QS Tryz.prog 139 [p.1.v,q.1.v] w F (fun(c:Wd)=>c.1.v) (fun c F=>Jm F c.1 c.2 (XC (JF p.2++JF q.2))):=by
 have hpw:∀ e∈[p,q],(∀ t∈e.2,PW t.t.2)∧e.2.length≤400000000∧e.2.length=e.1.n:=by
  intro e he
  simp only [List.mem_cons,List.not_mem_nil,or_false] at he
  rcases he with rfl | rfl
  ·exact⟨hp.1,hl.1,hP.2.2.2.2⟩
  ·exact⟨hp.2,hl.2,hQ.2.2.2.2⟩
 have hall:Bh [p,q]=JF p.2++JF q.2:=by simp [Bh]
 rw [← hall] at hz ⊢
 dsimp only [Sr.v]
 refine QS.intro (G:=fun F=>JB F∧Tt F [p,q]) Tryz.func139 rfl (by rfl) rfl rfl hF (fun F' hF'=>⟨hGl.le hF',Tt.le (by intro e he;simp only [List.mem_cons,List.not_mem_nil,or_false] at he;rcases he with rfl | rfl;exact hP;exact hQ) hF'⟩)<|J_sr<|JS_as rfl<|JS_nt<|J_sr<|VH tx (fun m=>JS_as rfl<|JS_nt<|QG<|J_sr<|JS_mv rfl<|JS_mv rfl<|QU rfl (Q6 Bv) Vz Iq rfl rfl (fun b13=>QA (Ql rfl Bv)<|JS_mv rfl<|JS_nt<|Qa<|Jz (ι:=dy [p,q]) [(5,_),(13,_),(14,_)] (fun i=>[(15,.int .i64 ((i.i:Nat):Int))]) (fun i=>[(m,X3 tx (WX i.ts))]) (fun i F=>VO F i.ts) (fun i=>2 - i.i) (⟨0,[],Nat.zero_le _,Ko.nil⟩) ⟨rfl,rfl,rfl,trivial⟩ ⟨rfl,trivial⟩ subl_r (fun _ _ _ h=>by cases h) (fun i=>?_)))
 simp only [List.cons_append,List.nil_append]
 have hi:=i.le
 simp only [List.length_cons,List.length_nil] at hi
 refine J_sr<|QA (QV rfl rfl rfl)<|JS_nt<|QG ?_
 refine QR rfl (fun hc=>?_) (fun hc=>?_)
 ·
  have hlt:i.i<[p,q].length:=by have:=dec_t hc;simp only [List.length_cons,List.length_nil];omega
  have hem:=Jc hlt
  have hpe:=hpw _ hem
  have hln:=hpe.2.2
  have hln2:=hpe.2.1
  refine QP<|QC<|QG<|Qa<|J_sr<|QA (Ja (n:=2) (i.i) (fun F ⟨⟨⟨hGl,hL⟩,hs13⟩,hT⟩=>Q9.of (n:=2) (sz:=1) (cs:=[p,q].map fun e=>e.1.v) hs13 rfl) rfl rfl Bv Vz (by simpa using hlt))<|QA (Jk (n:=2) (i.i*1) (fun F ⟨⟨⟨hGl,hL⟩,hs13⟩,hT⟩=>Q9.of (n:=2) (sz:=1) (cs:=[p,q].map fun e=>e.1.v) hs13 rfl) (by decide) rfl Vz (Mr (f:=fun e:Wd=>e.1.v) (l:=[p,q]) hlt))<|JS_as rfl<|JS_nt<|J_sr<|JS_mv rfl<|QA (Ql rfl J1)<|JS_mv rfl<|JS_nt<|Qa<|Jz (ι:=Bp (Bh ([p,q].take i.i)) (el [p,q] i.i).2) [(5,_),(13,_),(14,_),(15,_),(19,_),(20,_)] (fun i2=>[(21,.int .i64 ((i2.j:Nat):Int))]) (fun i2=>[(m,X3 tx (WX i2.ts))]) (fun i2 F=>VO F i2.ts) (fun i2=>(el [p,q] i.i).2.length - i2.j) (⟨0,i.ts,Nat.zero_le _,by simpa [JF] using i.hI⟩) ⟨rfl,rfl,rfl,rfl,rfl,rfl,trivial⟩ ⟨rfl,trivial⟩ subl_r (fun _ h=>h.2) (fun i2=>?_)
  simp only [List.cons_append,List.nil_append]
  have hj:=i2.le
  refine J_sr<|QA (QV rfl rfl rfl)<|JS_nt<|QG ?_
  refine QR rfl (fun hc=>?_) (fun hc=>?_)
  ·
   have hlt2:i2.j<(el [p,q] i.i).2.length:=by have:=dec_t hc;omega
   have htm:=Jc hlt2
   have hz1:=qe (j:=i2.j) hlt
   have hz2:JL (el (el [p,q] i.i).2 i2.j).t.1≤Zb (Bh [p,q]):=Hw (List.mem_flatMap.2 ⟨_,hem,List.mem_map_of_mem htm⟩)
   refine QP<|QC<|QG<|Qa<|J_sr<|QA (Ja (n:=(el [p,q] i.i).1.n) (i2.j) (fun F ⟨⟨⟨⟨hGl,hL⟩,hs13⟩,hT⟩,hT2⟩=>(hL _ hem).1) rfl rfl J1 Jd (by omega))<|QA (X2 (n:=(el [p,q] i.i).1.n) (vs:=[.int .i64 (el (el [p,q] i.i).2 (i2.j)).x.n.s,.slice (el (el [p,q] i.i).2 (i2.j)).x.n.q (el (el [p,q] i.i).2 (i2.j)).x.n.n (el (el [p,q] i.i).2 (i2.j)).x.n.cap,.int .i64 (el (el [p,q] i.i).2 (i2.j)).x.d.s,.slice (el (el [p,q] i.i).2 (i2.j)).x.d.q (el (el [p,q] i.i).2 (i2.j)).x.d.n (el (el [p,q] i.i).2 (i2.j)).x.d.cap,.slice (el (el [p,q] i.i).2 (i2.j)).r.q (el (el [p,q] i.i).2 (i2.j)).r.n (el (el [p,q] i.i).2 (i2.j)).r.cap]) ((i2.j)*5) (fun F ⟨⟨⟨⟨hGl,hL⟩,hs13⟩,hT⟩,hT2⟩=>(hL _ hem).1) (by omega) rfl Jd rfl (fun j v hv=>XM (f:=Ya) (l:=(el [p,q] i.i).2) YH (by omega) hv))<|Qb ZW (fun b9=>QN (vs:=[_,_,_,_,_]) rfl rfl rfl Jd rfl .here (.here (.here (.here (.here (.here .nil))))) ⟨rfl,rfl,rfl,rfl,rfl,trivial⟩<|JS_nt<|QB<|JS_mv rfl<|QA (QH rfl Z0 Qc)<|QA (QJ (vs:=[_,_,_,_]) rfl Qc .here (.here (.here (.here (.here .nil)))) rfl)<|QA (QH rfl X4 Qz)<|QA (Qj rfl Qz .here (.skip (.skip (.skip (.skip (.here .nil))))))<|XJ rfl (List.Perm.swap _ _ _) (H2 (r:=(el (el [p,q] i.i).2 i2.j).r) (x:=(el (el [p,q] i.i).2 i2.j).x) i2.hI (hpe.1 _ htm) (by omega) (by omega) (fun F ⟨⟨⟨⟨hGl,hL⟩,hs13⟩,hT⟩,hT2⟩=>⟨hGl,hT2,((hL _ hem).2.1 _ htm).1,((hL _ hem).2.1 _ htm).2⟩)) (fun n30=>JK _ (fun w F hF h=>h.2.2) (fun h30=>QE<|Qk<|QC<|QB<|QA (Qu rfl rfl (by omega)) ?_)))
   refine JS_mv rfl<|QE ?_
   exact Qo (⟨i2.j+1,addN i2.ts n30,hlt2,by rw [Xk hlt2,← List.append_assoc];exact i2.hI.add (hpe.1 _ htm) h30⟩) (by show _ - (i2.j+1)<_ - i2.j;omega) ⟨rfl,rfl,rfl,rfl,rfl,rfl,rfl,trivial⟩ (.cons_cons _ (.cons _ .slnil)) (fun F h=>⟨h.1.1,h.2.1⟩)
  ·
   have hge2:i2.j=(el [p,q] i.i).2.length:=by have:=dec_f hc;omega
   refine Q5 ?_
   repeat (first | refine Qd ?_ | refine QW (by rfl) ?_)
   refine Qe<|Qk<|QC<|QB<|QA (Qu rfl rfl (by omega))<|JS_mv rfl<|QE ?_
   exact Qo (⟨i.i+1,i2.ts,hlt,by rw [IQ hlt];have:=i2.hI;rw [hge2,List.take_length] at this;exact this⟩) (by show 2 - (i.i+1)<2 - i.i;simp only [List.length_cons,List.length_nil] at hlt;omega) ⟨rfl,rfl,rfl,rfl,trivial⟩ subl_r (fun F h=>⟨h.1.1,h.2⟩)
 ·
  have hge:i.i=[p,q].length:=by have:=dec_f hc;simp only [List.length_cons,List.length_nil];omega
  refine Q5 ?_
  repeat (first | refine Qd ?_ | refine QW (by rfl) ?_)
  refine Qe<|QC<|J_sr<|JS_mv rfl ?_
  have hI:=i.hI
  rw [hge,List.take_length] at hI
  refine XJ rfl (List.Perm.refl _) (GD hI (by have:=hI.ln;rw [hall,List.length_append] at this;simp only [JF,List.length_map] at this;omega) (fun F h=>h.2)) (fun c34=>JS_as rfl<|JS_nt<|QT ?_)
  exact QQ (c34) rfl (.tmp rfl .nil) (rfl) (fun F h=>h.2)
end
section
open Go.RowKit Ig
section
variable {P:Program} {Q:Exit→Act→World→Prop} {N:Nat} {m:Sl} {E0:Env} {ops:Array Oper} {l:List Oper} {w0:World} {F0:Gs} {bs:List (Nat×Obj)} {G:Gs→Prop}
theorem E5 [Dr] {bs':List (Nat×Obj)} (hp:bs.Perm bs') (k:JD P ops Q E0 l N m ⟨w0,F0,bs',G⟩):JD P ops Q E0 l N m ⟨w0,F0,bs,G⟩:=fun hE a w ha hw=>k (fun w h=>hE w (h.perm hp.symm)) a w ha (hw.perm hp)
end
def V1 (a:Rat) (l:List Tm):List Tm:=if a=0 then [] else l.map fun t=>(t.1*a,t.2)
structure dW (a:Rat) (ts:List XO) where
 i:Nat
 v:Value
 ob:List (Nat×Obj)
 out:List XO
 le:i≤ts.length
 hr:Q3 165 5 v i (out.flatMap Ya) ob
 ho:JF out=(JF (ts.take i)).map fun t=>(t.1*a,t.2)
theorem Ci {a:Rat} {ts out:List XO} {i:Nat} (hi:i≤ts.length) (h:JF out=(JF (ts.take i)).map fun t=>(t.1*a,t.2)):out.length=i:=by
 have:=congrArg List.length h
 simp only [JF,List.length_map,List.length_take] at this
 omega
theorem Lh {w:World} {F:Gs} {p:Wd} {x:Fr} {a:Rat} (hF:Fits F w) (hP:Jm F p.1 p.2 (JF p.2)) (hA:JW F x a) (hl:p.2.length≤1000000) (ha:JL a≤40000000) (hz:Zb (JF p.2)≤40000000) :
  QS Tryz.prog 183 [p.1.v,x.v] w F (fun(c:Wd)=>c.1.v) (fun c F=>Jm F c.1 c.2 (V1 a (JF p.2))):=by
 obtain ⟨⟨q,n,cap⟩,ts⟩:=p
 have hln:ts.length=n:=hP.2.2.2.2
 dsimp only [Sr.v,Fr.v] at hP hl hz ⊢
 refine QS.intro (G:=fun F=>Jm F ⟨q,n,cap⟩ ts (JF ts)∧JW F x a) Tryz.func183 rfl (by rfl) rfl rfl hF (fun F' hF'=>⟨hP.le hF',hA.le hF'⟩)<|J_sr<|Qw rfl (vs:=[_,_,_,_]) rfl (fun b3=>JS_as rfl<|JS_nt<|QG<|J_sr<|QA (QJ (vs:=[_,_,_,_]) rfl Qc .here (.here (.here (.here (.here .nil)))) rfl)<|QI rfl (fun w F hF ⟨hP,⟨hxn,hxd⟩⟩=>GP hF ⟨by assumption,by assumption⟩) (fun _=>QA (QV rfl rfl rfl)<|QE<|QC ?_))
 refine QR rfl (fun hc=>?_) (fun hc=>?_)
 ·
  have ha0:a=0:=H8.1 (by simpa using hc)
  refine J_sr<|JS_as rfl<|JS_nt<|QT ?_
  exact QQ ((⟨none,0,0⟩,[])) rfl (.tmp rfl .nil) (rfl) (fun F ⟨⟨hP,⟨hxn,hxd⟩⟩,_⟩=>⟨Q9.nil F none 5,(fun _ h=>by cases h),by unfold V1;rw [if_pos ha0];rfl,Nat.le_refl _,rfl⟩)
 ·
  have ha0:a≠0:=fun e=>by rw [e] at hc;cases hc
  refine QP<|QC<|J_sr<|JS_as rfl<|JS_nt<|QG<|J_sr<|JS_mv rfl<|QA (Ql rfl J1)<|JS_mv rfl<|JS_nt<|Qa<|Jz (ι:=dW a ts) [(3,_),(11,_),(12,_)] (fun i=>[(5,i.v),(13,.int .i64 ((i.i:Nat):Int))]) (fun i=>(b3,.cells [.int .i64 x.n.s,.slice x.n.q x.n.n x.n.cap,.int .i64 x.d.s,.slice x.d.q x.d.n x.d.cap].toArray 130 (0,0))::i.ob) (fun i F=>VO F i.out) (fun i=>ts.length - i.i) (⟨0,_,[],[],Nat.zero_le _,.nil,by simp [JF]⟩) ⟨rfl,rfl,rfl,trivial⟩ ⟨rfl,rfl,trivial⟩ subl_r (fun _ _ _ h=>by cases h) (fun i=>?_)
  simp only [List.cons_append,List.nil_append]
  have hi:=i.le
  refine J_sr<|QA (QV rfl rfl rfl)<|JS_nt<|QG ?_
  refine QR rfl (fun hc=>?_) (fun hc=>?_)
  ·
   have hlt:i.i<ts.length:=by have:=dec_t hc;omega
   have htm:=Jc hlt
   have hz2:JL (el ts i.i).t.1≤Zb (JF ts):=Hw (List.mem_map_of_mem htm)
   refine QP<|QC<|QG<|Qa<|J_sr<|QA (Ja (n:=n) (i.i) (fun F ⟨⟨⟨hP,⟨hxn,hxd⟩⟩,_⟩,hT⟩=>(hP).1) rfl rfl J1 Jd (by omega))<|QA (X2 (n:=n) (vs:=[.int .i64 (el ts (i.i)).x.n.s,.slice (el ts (i.i)).x.n.q (el ts (i.i)).x.n.n (el ts (i.i)).x.n.cap,.int .i64 (el ts (i.i)).x.d.s,.slice (el ts (i.i)).x.d.q (el ts (i.i)).x.d.n (el ts (i.i)).x.d.cap,.slice (el ts (i.i)).r.q (el ts (i.i)).r.n (el ts (i.i)).r.cap]) ((i.i)*5) (fun F ⟨⟨⟨hP,⟨hxn,hxd⟩⟩,_⟩,hT⟩=>(hP).1) (by omega) rfl Jd rfl (fun j v hv=>XM (f:=Ya) (l:=ts) YH (by omega) hv))<|Qb ZW (fun b7=>QN (vs:=[_,_,_,_,_]) rfl rfl rfl Jd rfl .here (.here (.here (.here (.here (.here .nil))))) ⟨rfl,rfl,rfl,rfl,rfl,trivial⟩<|JS_nt<|JN (.cons_cons _ (.cons_cons _ (List.nil_sublist _))) mixed (by kernel_rfl)<|QK (QD rfl)<|QK (QH rfl Z0 Qc)<|QK (QJ (vs:=[_,_,_,_]) rfl Qc .here (.here (.here (.here (.here .nil)))) rfl)<|QK (QJ (vs:=[_,_,_,_]) rfl Qc (.there .here) (.here (.here (.here (.here .nil)))) rfl)<|QY rfl (fun w F hF ⟨⟨⟨hP,⟨hxn,hxd⟩⟩,_⟩,hT⟩=>KR hF (hP.2.1 _ htm |>.1) ⟨by assumption,by assumption⟩ (by omega) (by omega)) (fun x21=>QK (QH rfl X4 Qz)<|QK (Qj rfl Qz .here (.skip (.skip (.skip (.skip (.here .nil))))))<|QK (Qy rfl Md ZW (.cons (vs:=[_,_,_,_]) rfl rfl rfl (.here (.here (.here (.here .nil)))) (.cons (vs:=[_]) rfl rfl rfl (.skip (.skip (.skip (.skip (.here .nil))))) .nil))) ?_))
   refine Jp rfl (Q6 J1) Jd ZW rfl rfl (fun b25=>?_) (fun w h=>h.imp (.cons_cons _ (.cons_cons _ (List.nil_sublist _))) (fun F h=>h.1))
   refine E5 (List.perm_append_comm (l₁:=[_,_])) ?_
   refine DP (n:=i.i) (k:=1) (sz:=5) (news:=Ya ⟨x21,(el ts i.i).r,((el ts i.i).t.1*a,(el ts i.i).t.2)⟩) rfl rfl J1 Jd ZW rfl AG i.hr (Src.row (off:=0) (fun F ⟨⟨⟨⟨⟨hP,⟨hxn,hxd⟩⟩,_⟩,hT⟩,⟨h21,h21_⟩⟩,hs25⟩=>hs25) (fun j v hv=>by rw [Nat.zero_add];show((Ya ⟨x21,(el ts i.i).r,((el ts i.i).t.1*a,(el ts i.i).t.2)⟩).toArray)[j]?=some v;rw [List.getElem?_toArray];exact hv) rfl) (by omega) (by omega) (RV _) subl_r (fun _ h=>h.1.1) (fun v26 ob26 hr26=>?_)
   refine E5 (List.perm_append_comm (l₂:=[_,_]))<|QK (QF rfl)<|Q4<|Qk<|QC<|QB<|QA (Qu rfl rfl (by omega))<|JS_mv rfl<|QE ?_
   exact Qo (⟨i.i+1,v26,ob26,i.out++[⟨x21,(el ts i.i).r,((el ts i.i).t.1*a,(el ts i.i).t.2)⟩],hlt,by rw [List.flatMap_append];simpa using hr26,by rw [Xk hlt,List.map_append,← i.ho];simp [JF]⟩) (by show ts.length - (i.i+1)<ts.length - i.i;omega) ⟨rfl,rfl,rfl,rfl,rfl,trivial⟩ (.cons _ subl_r) (fun F ⟨⟨⟨hB,hT⟩,⟨h21,h21_⟩⟩,_⟩=>⟨hB,fun t ht=>by
   rcases List.mem_append.1 ht with ht | ht
   ·exact hT t ht
   ·rw [List.mem_singleton.1 ht];exact⟨⟨h21,h21_⟩,(hB.1.1.2.1 _ htm).2⟩⟩)
  ·
   have hge:i.i=ts.length:=by have:=dec_f hc;omega
   refine Q5 ?_
   repeat (first | refine Qd ?_ | refine QW (by rfl) ?_)
   refine Qe<|QC<|QG<|QB ?_
   obtain ⟨r,hv,hrn,hrc,hfix⟩:=Q3.fix (w0:=w) (F0:=F) (bs1:=[_]) (G:=_) i.hr
   refine DN hfix ?_
   rw [hv]
   refine JS_mv rfl<|JS_as rfl<|JS_nt<|QT ?_
   exact QQ ((r,i.out)) rfl (.tmp rfl .nil) (rfl) (fun F ⟨⟨⟨⟨hP,_⟩,_⟩,hT⟩,hrow⟩=>⟨by rw [hrn];exact hrow,hT,by unfold V1;rw [if_neg ha0,i.ho,hge,List.take_length],by rw [hrn];exact hrc,by rw [hrn];exact Ci hi i.ho⟩)
end
section
open Go.RowKit Ig
abbrev Pt:=List (List UInt8×List Int)
def XB (ts:List GA):Pt:=ts.map fun t=>(t.f,t.k)
def Da (l:List Tm):Pt:=l.map fun t=>(JQ t.1,t.2)
def VK (F:Gs) (s:Sr) (ts:List GA) (p:Pt):Prop:=Q9 F s.q s.n 2 (ts.flatMap WQ)∧Yc F ts∧XB ts=p∧s.n≤s.cap∧ts.length=s.n
theorem VK.le {F F':Gs} {s:Sr} {ts:List GA} {p:Pt} (h:VK F s ts p) (k:Gs.le F F'):VK F' s ts p:=⟨h.1.le k,h.2.1.le k,h.2.2⟩
abbrev Ku:=Sr×List GA
theorem qY (t:GA):∀ v∈WQ t,v.oneCell'=true:=by
 intro v hv
 unfold WQ at hv
 simp only [List.mem_cons,List.not_mem_nil,or_false] at hv
 rcases hv with rfl | rfl<;>rfl
structure dT (ts:List XO) where
 i:Nat
 v:Value
 ob:List (Nat×Obj)
 out:List GA
 le:i≤ts.length
 hr:Q3 122 2 v i (out.flatMap WQ) ob
 ho:XB out=Da (JF (ts.take i))
theorem zC {ts:List XO} {out:List GA} {i:Nat} (hi:i≤ts.length) (h:XB out=Da (JF (ts.take i))):out.length=i:=by
 have:=congrArg List.length h
 simp only [XB,Da,JF,List.length_map,List.length_take] at this
 omega
theorem Cb {w:World} {F:Gs} {p:Wd} (hF:Fits F w) (hGl:JB F) (hP:Jm F p.1 p.2 (JF p.2)) (hp:∀ t∈p.2,PW t.t.2) (hl:p.2.length≤1000000) (hz:∀ t∈p.2,JL t.t.1≤100000000) :
  QS Tryz.prog 221 [p.1.v] w F (fun(c:Ku)=>c.1.v) (fun c F=>VK F c.1 c.2 (Da (JF p.2))):=by
 obtain ⟨⟨q,n,cap⟩,ts⟩:=p
 have hln:ts.length=n:=hP.2.2.2.2
 dsimp only [Sr.v] at hP hl hz ⊢
 refine QS.intro (G:=fun F=>JB F∧Jm F ⟨q,n,cap⟩ ts (JF ts)) Tryz.func221 rfl (by rfl) rfl rfl hF (fun F' hF'=>⟨hGl.le hF',hP.le hF'⟩)<|J_sr<|JS_as rfl<|JS_nt<|J_sr<|JS_as rfl<|JS_nt<|QG<|J_sr<|JS_mv rfl<|QA (Ql rfl J1)<|JS_mv rfl<|JS_nt<|Qa<|Jz (ι:=dT ts) [(6,_),(7,_)] (fun i=>[(3,i.v),(8,.int .i64 ((i.i:Nat):Int))]) (fun i=>i.ob) (fun i F=>Yc F i.out) (fun i=>ts.length - i.i) (⟨0,_,[],[],Nat.zero_le _,.nil,by simp [JF,XB,Da]⟩) ⟨rfl,rfl,trivial⟩ ⟨rfl,rfl,trivial⟩ subl_r (fun _ _ _ h=>by cases h) (fun i=>?_)
 simp only [List.cons_append,List.nil_append]
 have hi:=i.le
 refine J_sr<|QA (QV rfl rfl rfl)<|JS_nt<|QG ?_
 refine QR rfl (fun hc=>?_) (fun hc=>?_)
 ·
  have hlt:i.i<ts.length:=by have:=dec_t hc;omega
  have htm:=Jc hlt
  refine QP<|QC<|QG<|Qa<|J_sr<|QA (Ja (n:=n) (i.i) (fun F ⟨⟨hGl,hP⟩,hT⟩=>(hP).1) rfl rfl J1 Jd (by omega))<|QA (X2 (n:=n) (vs:=[.int .i64 (el ts (i.i)).x.n.s,.slice (el ts (i.i)).x.n.q (el ts (i.i)).x.n.n (el ts (i.i)).x.n.cap,.int .i64 (el ts (i.i)).x.d.s,.slice (el ts (i.i)).x.d.q (el ts (i.i)).x.d.n (el ts (i.i)).x.d.cap,.slice (el ts (i.i)).r.q (el ts (i.i)).r.n (el ts (i.i)).r.cap]) ((i.i)*5) (fun F ⟨⟨hGl,hP⟩,hT⟩=>(hP).1) (by omega) rfl Jd rfl (fun j v hv=>XM (f:=Ya) (l:=ts) YH (by omega) hv))<|Qb ZW (fun b5=>QN (vs:=[_,_,_,_,_]) rfl rfl rfl Jd rfl .here (.here (.here (.here (.here (.here .nil))))) ⟨rfl,rfl,rfl,rfl,rfl,trivial⟩<|JS_nt<|JN (.cons_cons _ (List.nil_sublist _)) mixed (by kernel_rfl)<|QK (QD rfl)<|QK (QH rfl Z0 Qc)<|QK (QJ (vs:=[_,_,_,_]) rfl Qc .here (.here (.here (.here (.here .nil)))) rfl)<|QY rfl (fun w F hF ⟨⟨hGl,hP⟩,hT⟩=>Ea hF hGl (hP.2.1 _ htm |>.1) (hz _ htm)) (fun _=>QK (QH rfl X4 Qz)<|QK (Qj rfl Qz .here (.skip (.skip (.skip (.skip (.here .nil))))))<|QY rfl (fun w F hF ⟨⟨⟨hGl,hP⟩,hT⟩,_⟩=>Rx hF (r:=(el ts i.i).r) (hP.2.1 _ htm).2 (by have:=(hp _ htm).2;omega)) (fun c18=>QK (Qy rfl ZH Xe (.cons (vs:=[_]) rfl rfl rfl (.here .nil) (.cons (vs:=[_]) rfl rfl rfl (.skip (.here .nil)) .nil))) ?_)))
  refine Jp rfl (Q6 Zh) Xr Xe rfl rfl (fun b20=>?_) (fun w h=>h.imp (.cons_cons _ (List.nil_sublist _)) (fun F h=>h.1.1))
  refine E5 (List.perm_append_comm (l₁:=[_])) ?_
  refine DP (n:=i.i) (k:=1) (sz:=2) (news:=WQ ⟨JQ (el ts i.i).t.1,c18,(el ts i.i).t.2⟩) rfl rfl Zh Xr Xe rfl x3 i.hr (Src.row (off:=0) (fun F ⟨⟨⟨⟨⟨hGl,hP⟩,hT⟩,_⟩,h18⟩,hs20⟩=>hs20) (fun j v hv=>by rw [Nat.zero_add];show((WQ ⟨JQ (el ts i.i).t.1,c18,(el ts i.i).t.2⟩).toArray)[j]?=some v;rw [List.getElem?_toArray];exact hv) rfl) (by omega) (by omega) (qY _) subl_r (fun _ h=>h.1.1.1) (fun v21 ob21 hr21=>?_)
  refine E5 (List.perm_append_comm (l₂:=[_]))<|QK (QF rfl)<|Q4<|Qk<|QC<|QB<|QA (Qu rfl rfl (by omega))<|JS_mv rfl<|QE ?_
  exact Qo (⟨i.i+1,v21,ob21,i.out++[⟨JQ (el ts i.i).t.1,c18,(el ts i.i).t.2⟩],hlt,by rw [List.flatMap_append];simpa using hr21,by unfold XB Da;rw [Xk hlt,List.map_append,List.map_append];have:=i.ho;unfold XB Da at this;rw [this];rfl⟩) (by show ts.length - (i.i+1)<ts.length - i.i;omega) ⟨rfl,rfl,rfl,rfl,trivial⟩ (.cons _ subl_r) (fun F ⟨⟨⟨⟨hB,hT⟩,_⟩,h18⟩,_⟩=>⟨hB,fun t ht=>by
   rcases List.mem_append.1 ht with ht | ht
   ·exact hT t ht
   ·rw [List.mem_singleton.1 ht];exact h18⟩)
 ·
  have hge:i.i=ts.length:=by have:=dec_f hc;omega
  refine Q5 ?_
  repeat (first | refine Qd ?_ | refine QW (by rfl) ?_)
  refine Qe<|QC<|QG<|QB ?_
  obtain ⟨r,hv,hrn,hrc,hfix⟩:=Q3.fix (w0:=w) (F0:=F) (bs1:=[]) (G:=_) i.hr
  refine DN hfix ?_
  rw [hv]
  refine JS_mv rfl<|JS_as rfl<|JS_nt<|QT ?_
  exact QQ ((r,i.out)) rfl (.tmp rfl .nil) (rfl) (fun F ⟨⟨_,hT⟩,hrow⟩=>⟨by rw [hrn];exact hrow,hT,by rw [i.ho,hge,List.take_length],by rw [hrn];exact hrc,by rw [hrn];exact zC hi i.ho⟩)
end
section
open Go.RowKit Ig
theorem Q3.pos {T:TypeId} {sz n:Nat} {v:Value} {cs:List Value} {ob:List (Nat×Obj)} (h:Q3 T sz v n cs ob) (hn:0<n):∃ b cap rest,v = .slice (Option.some ⟨b,0,Option.none⟩) n cap∧ob=[(b,.cells (cs++rest).toArray T (0,0))]∧cs.length=n*sz∧cs.length+rest.length=cap*sz∧n≤cap∧cap≤maxLen:=by
 cases h with
 |nil=>omega
 |some h1 h2 h3 h4=>exact⟨_,_,_,rfl,rfl,h1,h2,h3,h4⟩
structure pe (p q:List XO) where
 i:Nat
 ts:List XO
 le:i≤p.length
 hI:Ko ts (Jg (JF (p.take i)) (JF q))
structure pg (l0:List Tm) (s:Tm) (q:List XO) where
 j:Nat
 ts:List XO
 le:j≤q.length
 hI:Ko ts (l0++XP s (JF (q.take j)))
structure pf (n:Nat) (a b:List Int) where
 k:Nat
 L:List Int
 v:Value
 ob:List (Nat×Obj)
 le:k≤b.length
 hr:Q3 3 1 v n (L.map Qx) ob
 hL:L=Xj (a.take k) (b.take k)++a.drop k
theorem IU {a b:List Int} {k:Nat} (h1:k<a.length) (h2:k<b.length):(Xj (a.take k) (b.take k)++a.drop k).set k (Qg a k+Qg b k)=Xj (a.take (k+1)) (b.take (k+1))++a.drop (k+1):=by
 have hl:(Xj (a.take k) (b.take k)).length=k:=by unfold Xj;rw [List.length_zipWith,List.length_take,List.length_take];omega
 have hs:Xj (a.take (k+1)) (b.take (k+1))=Xj (a.take k) (b.take k)++[Qg a k+Qg b k]:=by
  rw [ZD h1,ZD h2,Xp h1,Xp h2]
  unfold Xj
  rw [List.zipWith_append (by rw [List.length_take,List.length_take];omega)];rfl
 rw [hs,Ec h1,List.set_append_right _ _ (by omega),hl,Nat.sub_self]
 simp
theorem Tr {a b:List Int} {k:Nat} (h1:k<a.length) (h2:k<b.length):Qg (Xj (a.take k) (b.take k)++a.drop k) k=Qg a k:=by
 have hl:(Xj (a.take k) (b.take k)).length=k:=by unfold Xj;rw [List.length_zipWith,List.length_take,List.length_take];omega
 have h3:k<(Xj (a.take k) (b.take k)++a.drop k).length:=by rw [List.length_append,hl,List.length_drop];omega
 rw [Xp h3,Xp h1,Za h3,Za h1,List.getElem_append_right (by omega)]
 simp [hl]
theorem Mb {p q:List XO} {i:Nat} (h:i<p.length):Jg (JF (p.take (i+1))) (JF q)=Jg (JF (p.take i)) (JF q)++XP (el p i).t (JF q):=by
 rw [Xk h,BC];congr 1;simp [Jg]
theorem Lj {p q:List XO} {i j:Nat} (h:i<p.length):Zb (Jg (JF (p.take i)) (JF q)++XP (el p i).t (JF (q.take j)))≤Zb (Jg (JF p) (JF q)):=by
 have e1:JF p=JF (p.take (i+1))++JF (p.drop (i+1)):=by unfold JF;rw [← List.map_append,List.take_append_drop]
 have e2:JF q=JF (q.take j)++JF (q.drop j):=by unfold JF;rw [← List.map_append,List.take_append_drop]
 have h1:Zb (Jg (JF p) (JF q))=Zb (Jg (JF (p.take (i+1))++JF (p.drop (i+1))) (JF q)):=by rw [← e1]
 rw [BC,Mb h,Xb,Xb] at h1
 have h2:Zb (XP (el p i).t (JF q))=Zb (XP (el p i).t (JF (q.take j)++JF (q.drop j))):=by rw [← e2]
 rw [Gk,Xb] at h2
 rw [Xb];omega
theorem PN (p q:List Tm):(Jg p q).length=p.length*q.length:=by
 induction p with
 |nil=>simp [Jg]
 |cons s p ih=>rw [V9,List.length_append,ih,List.length_cons,Nat.add_mul];simp [XP];omega
theorem xY {a b:Nat} (h:a≤10000) (k:b≤10000):a*b≤100000000:=Nat.mul_le_mul h k
theorem xN {w:World} {F:Gs} {p q:Wd} {N:Nat} (hF:Fits F w) (hGl:JB F) (hP:Jm F p.1 p.2 (JF p.2)) (hQ:Jm F q.1 q.2 (JF q.2)) (hw:(∀ t∈p.2,t.t.2.length=N)∧∀ t∈q.2,t.t.2.length=N) (hN:N≤1000) (hl:p.2.length≤10000∧q.2.length≤10000)
  (hpw:(∀ t∈p.2,PW t.t.2)∧(∀ t∈q.2,PW t.t.2)∧∀ s∈p.2,∀ t∈q.2,PW (Xj s.t.2 t.t.2)) (hz1:Zb (JF p.2)≤20000000∧Zb (JF q.2)≤20000000) (hz:Zb (Jg (JF p.2) (JF q.2))≤40000000) :
  QS Tryz.prog 223 [p.1.v,q.1.v] w F (fun(c:Wd)=>c.1.v) (fun c F=>Jm F c.1 c.2 (XC (Jg (JF p.2) (JF q.2)))):=by
 have hpn:=hP.2.2.2.2
 have hqn:=hQ.2.2.2.2
 dsimp only [Sr.v]
 refine QS.intro (G:=fun F=>JB F∧Jm F p.1 p.2 (JF p.2)∧Jm F q.1 q.2 (JF q.2)) Tryz.func223 rfl (by rfl) rfl rfl hF (fun F' hF'=>⟨hGl.le hF',hP.le hF',hQ.le hF'⟩)<|J_sr<|JS_as rfl<|JS_nt<|J_sr<|VH tx (fun m=>JS_as rfl<|JS_nt<|QG<|J_sr<|JS_mv rfl<|QA (Ql rfl J1)<|JS_mv rfl<|JS_nt<|Qa<|Jz (ι:=pe p.2 q.2) [(1,_),(5,_),(14,_),(15,_)] (fun i=>[(16,.int .i64 ((i.i:Nat):Int))]) (fun i=>[(m,X3 tx (WX i.ts))]) (fun i F=>VO F i.ts) (fun i=>p.2.length - i.i) (⟨0,[],Nat.zero_le _,Ko.nil⟩) ⟨rfl,rfl,rfl,rfl,trivial⟩ ⟨rfl,trivial⟩ subl_r (fun _ _ _ h=>by cases h) (fun i=>?_))
 simp only [List.cons_append,List.nil_append]
 have hi:=i.le
 refine J_sr<|QA (QV rfl rfl rfl)<|JS_nt<|QG ?_
 refine QR rfl (fun hc=>?_) (fun hc=>?_)
 ·
  have hlt:i.i<p.2.length:=by have:=dec_t hc;omega
  have hta:=Jc hlt
  have hna:=hw.1 _ hta
  have hra:=(hP.2.1 _ hta).2.2.1
  refine QP<|QC<|QG<|Qa<|J_sr<|QA (Ja (n:=p.1.n) (i.i) (fun F ⟨⟨hGl,hP,hQ⟩,hT⟩=>(hP).1) rfl rfl J1 Jd (by omega))<|QA (X2 (n:=p.1.n) (vs:=[.int .i64 (el p.2 (i.i)).x.n.s,.slice (el p.2 (i.i)).x.n.q (el p.2 (i.i)).x.n.n (el p.2 (i.i)).x.n.cap,.int .i64 (el p.2 (i.i)).x.d.s,.slice (el p.2 (i.i)).x.d.q (el p.2 (i.i)).x.d.n (el p.2 (i.i)).x.d.cap,.slice (el p.2 (i.i)).r.q (el p.2 (i.i)).r.n (el p.2 (i.i)).r.cap]) ((i.i)*5) (fun F ⟨⟨hGl,hP,hQ⟩,hT⟩=>(hP).1) (by omega) rfl Jd rfl (fun j v hv=>XM (f:=Ya) (l:=p.2) YH (by omega) hv))<|Qb ZW (fun b7=>QN (vs:=[_,_,_,_,_]) rfl rfl rfl Jd rfl .here (.here (.here (.here (.here (.here .nil))))) ⟨rfl,rfl,rfl,rfl,rfl,trivial⟩<|JS_nt<|J_sr<|JS_mv rfl<|QA (Ql rfl J1)<|JS_mv rfl<|JS_nt<|Qa<|Jz (ι:=pg (Jg (JF (p.2.take i.i)) (JF q.2)) (el p.2 i.i).t q.2) [(1,_),(5,_),(7,_),(14,_),(15,_),(16,_),(20,_),(21,_)] (fun i2=>[(22,.int .i64 ((i2.j:Nat):Int))]) (fun i2=>[(b7,.cells (Ya (el p.2 i.i)).toArray 165 (0,0)),(m,X3 tx (WX i2.ts))]) (fun i2 F=>VO F i2.ts) (fun i2=>q.2.length - i2.j) (⟨0,i.ts,Nat.zero_le _,by simpa [JF,XP] using i.hI⟩) ⟨rfl,rfl,rfl,rfl,rfl,rfl,rfl,rfl,trivial⟩ ⟨rfl,trivial⟩ subl_r (fun _ h=>h.2) (fun i2=>?_))
  simp only [List.cons_append,List.nil_append]
  have hj:=i2.le
  refine J_sr<|QA (QV rfl rfl rfl)<|JS_nt<|QG ?_
  refine QR rfl (fun hc=>?_) (fun hc=>?_)
  ·
   have hlt2:i2.j<q.2.length:=by have:=dec_t hc;omega
   have htb:=Jc hlt2
   have hnb:=hw.2 _ htb
   have hrb:=(hQ.2.1 _ htb).2.2.1
   have hzz:=Lj (q:=q.2) (j:=i2.j) hlt
   have hza:JL (el p.2 i.i).t.1≤Zb (JF p.2):=Hw (List.mem_map_of_mem hta)
   have hzb:JL (el q.2 i2.j).t.1≤Zb (JF q.2):=Hw (List.mem_map_of_mem htb)
   refine QP<|QC<|QG<|Qa<|J_sr<|QA (Ja (n:=q.1.n) (i2.j) (fun F ⟨⟨⟨hGl,hP,hQ⟩,hT⟩,hT2⟩=>(hQ).1) rfl rfl J1 Jd (by omega))<|QA (X2 (n:=q.1.n) (vs:=[.int .i64 (el q.2 (i2.j)).x.n.s,.slice (el q.2 (i2.j)).x.n.q (el q.2 (i2.j)).x.n.n (el q.2 (i2.j)).x.n.cap,.int .i64 (el q.2 (i2.j)).x.d.s,.slice (el q.2 (i2.j)).x.d.q (el q.2 (i2.j)).x.d.n (el q.2 (i2.j)).x.d.cap,.slice (el q.2 (i2.j)).r.q (el q.2 (i2.j)).r.n (el q.2 (i2.j)).r.cap]) ((i2.j)*5) (fun F ⟨⟨⟨hGl,hP,hQ⟩,hT⟩,hT2⟩=>(hQ).1) (by omega) rfl Jd rfl (fun j v hv=>XM (f:=Ya) (l:=q.2) YH (by omega) hv))<|Qb ZW (fun b9=>QN (vs:=[_,_,_,_,_]) rfl rfl rfl Jd rfl .here (.here (.here (.here (.here (.here .nil))))) ⟨rfl,rfl,rfl,rfl,rfl,trivial⟩<|JS_nt<|J_sr<|QA (QH rfl X4 Qz)<|QA (Qj rfl Qz (.there .here) (.skip (.skip (.skip (.skip (.here .nil))))))<|XJ rfl (List.Perm.refl _) (Ry (r:=(el p.2 i.i).r) (l:=(el p.2 i.i).t.2) (fun F ⟨⟨⟨hGl,hP,hQ⟩,hT⟩,hT2⟩=>(hP.2.1 _ hta).2) hra (by omega)) (fun c28=>JK _ (fun w F hF h=>h.2) (fun h28=>JS_as rfl<|JS_nt<|QG<|J_sr<|QA (QH rfl X4 Qz) ?_)))
   refine QA (Qj rfl Qz .here (.skip (.skip (.skip (.skip (.here .nil))))))<|QA (Ql rfl Qf)<|JS_mv rfl<|JS_nt<|Qa<|Jz (ι:=pf (el p.2 i.i).r.n (el p.2 i.i).t.2 (el q.2 i2.j).t.2) [(1,_),(5,_),(7,_),(9,_),(14,_),(15,_),(16,_),(20,_),(21,_),(22,_),(30,_),(31,_)] (fun i3=>[(10,i3.v),(32,.int .i64 ((i3.k:Nat):Int))]) (fun i3=>[(b9,.cells (Ya (el q.2 i2.j)).toArray 165 (0,0)),(b7,.cells (Ya (el p.2 i.i)).toArray 165 (0,0)),(m,X3 tx (WX i2.ts))]++i3.ob) (fun i3 F=>True) (fun i3=>(el q.2 i2.j).t.2.length - i3.k) (⟨0,(el p.2 i.i).t.2,c28.1,c28.2,Nat.zero_le _,h28,by simp [Xj]⟩) ⟨rfl,rfl,rfl,rfl,rfl,rfl,rfl,rfl,rfl,rfl,rfl,rfl,trivial⟩ ⟨rfl,rfl,trivial⟩ subl_r (fun _ _=>trivial) (fun i3=>?_)
   simp only [List.cons_append,List.nil_append]
   have hk:=i3.le
   refine J_sr<|QA (QV rfl rfl rfl)<|JS_nt<|QG ?_
   refine QR rfl (fun hc=>?_) (fun hc=>?_)
   ·
    obtain ⟨k,L,v,ob,hk0,hr,hL⟩:=i3
    dsimp only at hk hc ⊢
    have hlt3:k<(el q.2 i2.j).t.2.length:=by have:=dec_t hc;omega
    have hka:k<(el p.2 i.i).t.2.length:=by omega
    have hLn:L.length=(el p.2 i.i).t.2.length:=by rw [hL];unfold Xj;simp;omega
    have hb1:=(hpw.1 _ hta).el hka
    have hb2:=(hpw.2.1 _ htb).el hlt3
    obtain ⟨b,cap,rest,rfl,rfl,e1,e2,e3,e4⟩:=Q3.pos hr (by omega)
    have hdL:Qg L k=Qg (el p.2 i.i).t.2 k:=by rw [hL];exact Tr hka hlt3
    refine QP<|QC<|QG<|Qa<|J_sr<|JS_mv rfl<|QA (Ja (n:=(el q.2 i2.j).r.n) k (fun F ⟨⟨⟨⟨⟨hGl,hP,hQ⟩,hT⟩,hT2⟩,_⟩,_⟩=>(hQ.2.1 _ htb).2.1) rfl rfl Qf Qp (by omega))<|QA (Jk (n:=(el q.2 i2.j).r.n) (k*1) (fun F ⟨⟨⟨⟨⟨hGl,hP,hQ⟩,hT⟩,hT2⟩,_⟩,_⟩=>(hQ.2.1 _ htb).2.1) (by omega) rfl Qp (JO (o:=(el q.2 i2.j).t.2) (by omega)))<|JS_as rfl<|JS_as rfl<|JS_nt<|QB<|JS_mv rfl<|JS_mv rfl<|QA (Qv (i:=k) rfl rfl Qf Qp (by omega))<|QA (YG (c:=(L).map Qx++rest) (T':=3) rfl Qp (.there (.there (.there .here))) (Ze (by first | omega | (simp only [List.length_set];omega))))<|JS_mv rfl<|QA (Qu rfl rfl (by omega))<|QA (Qv (i:=k) rfl rfl Qf Qp (by omega))<|QN (vs:=[_]) rfl rfl rfl Qp rfl (.there (.there (.there .here))) (K4 (by first | omega | (simp only [List.length_set];omega)) ((Qg (L) (k)+Qg (el q.2 i2.j).t.2 k))) ⟨rfl,trivial⟩<|QE<|Qk<|QC ?_
    refine QB<|QA (Qu rfl rfl (by omega))<|JS_mv rfl<|QE ?_
    exact Qo (⟨k+1,_,_,_,hlt3,Q3.some (by simpa using e1) (by simpa using e2) e3 e4,by rw [hL,Tr hka hlt3];exact IU hka hlt3⟩) (by show(el q.2 i2.j).t.2.length - (k+1)<(el q.2 i2.j).t.2.length - k;omega) ⟨rfl,rfl,rfl,rfl,rfl,rfl,rfl,rfl,rfl,rfl,rfl,rfl,rfl,rfl,trivial⟩ subl_r (fun F h=>⟨h.1,trivial⟩)
   ·
    have hge3:i3.k=(el q.2 i2.j).t.2.length:=by have:=dec_f hc;omega
    have hLe:i3.L=Xj (el p.2 i.i).t.2 (el q.2 i2.j).t.2:=by
     have h1:=i3.hL
     rw [hge3,List.take_length] at h1
     rw [h1,List.take_of_length_le (by omega),List.drop_of_length_le (by omega),List.append_nil]
    have hLn:(Xj (el p.2 i.i).t.2 (el q.2 i2.j).t.2).length=(el p.2 i.i).r.n:=by rw [KH (by omega)];exact hra
    refine Q5 ?_
    repeat (first | refine Qd ?_ | refine QW (by rfl) ?_)
    refine Qe<|QC<|QB<|JS_mv rfl<|QA (QH rfl Z0 Qc)<|QA (QJ (vs:=[_,_,_,_]) rfl Qc (.there .here) (.here (.here (.here (.here .nil)))) rfl)<|QA (QH rfl Z0 Qc)<|QA (QJ (vs:=[_,_,_,_]) rfl Qc .here (.here (.here (.here (.here .nil)))) rfl)<|QI rfl (fun w F hF ⟨⟨⟨⟨⟨hGl,hP,hQ⟩,hT⟩,hT2⟩,_⟩,_⟩=>KR hF ((hP.2.1 _ hta).1) ((hQ.2.1 _ htb).1) (by omega) (by omega)) (fun x50=>JS_mv rfl ?_)
    obtain ⟨r,hv,hrn,hrc,hfix⟩:=Q3.fix (w0:=w) (F0:=F) (bs1:=[(b9,.cells (Ya (el q.2 i2.j)).toArray 165 (0,0)),(b7,.cells (Ya (el p.2 i.i)).toArray 165 (0,0)),(m,X3 tx (WX i2.ts))]) (G:=_) i3.hr
    refine DN hfix ?_
    rw [hv]
    refine X7 (List.perm_middle (l₁:=[_,_]) (l₂:=[]))<|XJ rfl (List.Perm.refl _) (H2 (r:=r) (x:=x50) i2.hI (hpw.2.2 _ hta _ htb) (by have:=XA (el p.2 i.i).t.1 (el q.2 i2.j).t.1;omega) (by omega) (fun F ⟨⟨⟨⟨⟨⟨⟨hGl,hP,hQ⟩,hT⟩,hT2⟩,_⟩,_⟩,⟨h50,h50_⟩⟩,hrow⟩=>⟨hGl,hT2,⟨h50,h50_⟩,by rw [hrn,← hLe];exact hrow,by rw [hrn];exact hLn,by rw [hrn];exact hrc⟩)) (fun n52=>JK _ (fun w F hF h=>h.2.2) (fun h52=>X7 (bs':=[_,_,_]) (List.perm_middle (l₁:=[_,_]) (l₂:=[])).symm<|QE<|Qk<|QC<|QB<|QA (Qu rfl rfl (by omega))<|JS_mv rfl<|QE ?_))
    exact Qo (⟨i2.j+1,addN i2.ts n52,hlt2,by rw [Xk hlt2,Gk,← List.append_assoc];exact i2.hI.add (hpw.2.2 _ hta _ htb) h52⟩) (by show q.2.length - (i2.j+1)<q.2.length - i2.j;omega) ⟨rfl,rfl,rfl,rfl,rfl,rfl,rfl,rfl,rfl,trivial⟩ (.cons _ subl_r) (fun F h=>⟨h.1.1.1.1.1.1,h.2.1⟩)
  ·
   have hge2:i2.j=q.2.length:=by have:=dec_f hc;omega
   refine Q5 ?_
   repeat (first | refine Qd ?_ | refine QW (by rfl) ?_)
   refine Qe<|Qk<|QC<|QB<|QA (Qu rfl rfl (by omega))<|JS_mv rfl<|QE ?_
   exact Qo (⟨i.i+1,i2.ts,hlt,by rw [Mb hlt];have:=i2.hI;rw [hge2,List.take_length] at this;exact this⟩) (by show p.2.length - (i.i+1)<p.2.length - i.i;omega) ⟨rfl,rfl,rfl,rfl,rfl,trivial⟩ (.cons _ subl_r) (fun F h=>⟨h.1.1,h.2⟩)
 ·
  have hge:i.i=p.2.length:=by have:=dec_f hc;omega
  refine Q5 ?_
  repeat (first | refine Qd ?_ | refine QW (by rfl) ?_)
  refine Qe<|QC<|J_sr<|JS_mv rfl ?_
  have hI:=i.hI
  rw [hge,List.take_length] at hI
  refine XJ rfl (List.Perm.refl _) (GD hI (by have h1:=hI.ln;rw [PN] at h1;simp only [JF,List.length_map] at h1;have h2:=xY hl.1 hl.2;omega) (fun F h=>h.2)) (fun c56=>JS_as rfl<|JS_nt<|QT ?_)
  exact QQ (c56) rfl (.tmp rfl .nil) (rfl) (fun F h=>h.2)
end
section
open Go.RowKit Ig
def qS:List Tm→Int
 |[]=>0
 |t::_=>t.2.sum
def Hc (l:List Tm):Bool:=l.any fun t=>Xi t.1
def Mw:List Bool→Int→Int
 |[],_=>-1
 |b::l,i=>if b then i else Mw l (i+1)
theorem TU:∀ (l:List Bool) (i:Int),0≤i→(decide (0≤Mw l i)=l.any id)
 |[],i,_=>rfl
 |true::l,i,h=>by simp [Mw,h]
 |false::l,i,h=>by simpa [Mw] using TU l (i+1) (by omega)
structure AK (bl:List Bool) where
 i:Nat
 le:i≤bl.length
 h:Mw bl 0=Mw (bl.drop i) i
theorem AK.hit {bl:List Bool} (s:AK bl) (h:s.i<bl.length) (e:bl[s.i]=true):Mw bl 0=s.i:=by
 rw [s.h,List.drop_eq_getElem_cons h,e];rfl
theorem AK.dE {bl:List Bool} (s:AK bl) (h:s.i<bl.length) (e:bl[s.i]=false):Mw bl 0=Mw (bl.drop (s.i+1)) ((s.i+1:Nat):Int):=by
 rw [s.h,List.drop_eq_getElem_cons h,e];rfl
theorem AK.stop {bl:List Bool} (s:AK bl) (h:bl.length≤s.i):Mw bl 0 = -1:=by
 rw [s.h,List.drop_of_length_le h];rfl
theorem Y3 (ts:List XO):(JF ts).length=ts.length:=by simp [JF]
theorem AS {ts:List XO} {i:Nat} (h:i<ts.length) (hb:i<((JF ts).map fun t=>Xi t.1).length):((JF ts).map fun t=>Xi t.1)[i]=Xi (el ts i).t.1:=by
 simp [JF,Za h]
theorem xQ {w:World} {F:Gs} {q:Option Addr} {n cap:Nat} {ts:List XO} (hF:Fits F w) (hP:Jm F ⟨q,n,cap⟩ ts (JF ts)) (hp:∀ t∈ts,PW t.t.2) (hl:ts.length≤1000000):QZ Tryz.prog 219 [.slice q n cap] w F (.int .i64 (qS (JF ts))):=by
 have hln:ts.length=n:=hP.2.2.2.2
 refine QS.intro (G:=fun F=>Jm F ⟨q,n,cap⟩ ts (JF ts)) Tryz.func219 rfl (by rfl) rfl rfl hF (fun F' hF'=>hP.le hF')<|J_sr<|JS_as rfl<|JS_nt<|QG<|J_sr<|JS_mv rfl<|QA (Ql rfl J1)<|QA (QV rfl rfl rfl)<|QE<|QC ?_
 refine QR rfl (fun hc=>?_) (fun hc=>?_)
 ·
  have h0:ts=[]:=by have:=dec_t hc;exact List.length_eq_zero_iff.1 (by omega)
  refine J_sr<|JS_as rfl<|JS_nt<|QT ?_
  exact QQ (()) rfl (.tmp rfl .nil) (by rw [h0];rfl) (fun F hP=>trivial)
 ·
  have h0:0<ts.length:=by have:=dec_f hc;omega
  have htm:=Jc h0
  refine QP<|QC<|J_sr<|JS_mv rfl<|QA (Ja (n:=n) (0) (fun F hP=>(hP).1) rfl (congrArg (fun z:Int=>some (Value.int .i64 z)) (by omega)) J1 Jd (by omega))<|QA (QH rfl X4 Qz)<|QA (Jk (n:=n) ((0)*5+4) (fun F hP=>(hP).1) (by omega) rfl Qz (XM (f:=Ya) (l:=ts) YH (by omega) rfl))<|QI rfl (fun w F hF hP=>B1 hF (r:=(el ts 0).r) (hP.2.1 _ htm).2 (hp _ htm)) (fun _=>JS_as rfl<|JS_nt<|QT ?_)
  exact QQ (()) rfl (.tmp rfl .nil) (congrArg (Value.int .i64) (by cases ts with | nil=>cases h0 | cons t l=>rfl)) (fun F ⟨hP,_⟩=>trivial)
theorem Fb {w:World} {F:Gs} {t:XO} (hF:Fits F w) (hGl:JB F) (hT:SF F t) (hz:JL t.t.1≤100000000):QZ Tryz.prog 269 [Ui t] w F (.bool (Xi t.t.1)):=by
 refine QS.intro (G:=fun F=>JB F∧SF F t) Tryz.func269 rfl (by rfl) rfl rfl hF (fun F' hF'=>⟨hGl.le hF',hT.le hF'⟩)<|J_sr<|Qw rfl (vs:=[_,_,_,_,_]) rfl (fun b1=>JS_as rfl<|JS_nt<|J_sr<|QA (QH rfl Z0 Qc)<|QA (QJ (vs:=[_,_,_,_]) rfl Qc .here (.here (.here (.here (.here .nil)))) rfl)<|QI rfl (fun w F hF ⟨hGl,hT⟩=>BQ hF hGl (hT.1) (hz)) (fun _=>JS_as rfl<|JS_nt<|QT ?_))
 exact QQ (()) rfl (.tmp rfl .nil) (rfl) (fun F ⟨⟨hGl,hT⟩,_⟩=>trivial)
theorem Lr {w:World} {F:Gs} {q:Option Addr} {n cap:Nat} {ts:List XO} (hF:Fits F w) (hP:Jm F ⟨q,n,cap⟩ ts (JF ts)) (hGl:JB F) (hz:∀ t∈ts,JL t.t.1≤100000000) (hl:ts.length≤1000000):QZ Tryz.prog 295 [.slice q n cap,.func (.func 269) #[] #[]] w F (.int .i64 (Mw ((JF ts).map fun t=>Xi t.1) 0)):=by
 have hln:ts.length=n:=hP.2.2.2.2
 have hbl:((JF ts).map fun t=>Xi t.1).length=ts.length:=by simp [JF]
 refine QS.intro (G:=fun F=>JB F∧Jm F ⟨q,n,cap⟩ ts (JF ts)) Tryz.func295 rfl (by rfl) rfl rfl hF (fun F' hF'=>⟨hGl.le hF',hP.le hF'⟩)<|J_sr<|JS_as rfl<|JS_nt<|QG<|J_sr<|JS_mv rfl<|QA (Ql rfl J1)<|JS_mv rfl<|JS_nt<|Qa<|Z3 (ι:=AK ((JF ts).map fun t=>Xi t.1)) [(0,_),(1,_),(7,_)] (fun i=>[(8,.int .i64 ((i.i:Nat):Int))]) (fun i=>ts.length - i.i) (⟨0,Nat.zero_le _,rfl⟩) ⟨rfl,rfl,rfl,trivial⟩ ⟨rfl,trivial⟩ (fun i=>?_)
 simp only [List.cons_append,List.nil_append]
 have hi:=i.le
 refine J_sr<|QA (QV rfl rfl rfl)<|JS_nt<|QG ?_
 refine QR rfl (fun hc=>?_) (fun hc=>?_)
 ·
  have hlt:i.i<ts.length:=by have:=dec_t hc;omega
  have htm:=Jc hlt
  refine QP<|QC<|QG<|Qa<|J_sr<|JS_mv rfl<|JS_as rfl<|JS_nt<|J_sr<|JS_mv rfl<|JS_mv rfl<|JS_mv rfl<|QA (Ja (n:=n) (i.i) (fun F ⟨hGl,hP⟩=>(hP).1) rfl rfl J1 Jd (by omega))<|QA (X2 (n:=n) (vs:=[.int .i64 (el ts (i.i)).x.n.s,.slice (el ts (i.i)).x.n.q (el ts (i.i)).x.n.n (el ts (i.i)).x.n.cap,.int .i64 (el ts (i.i)).x.d.s,.slice (el ts (i.i)).x.d.q (el ts (i.i)).x.d.n (el ts (i.i)).x.d.cap,.slice (el ts (i.i)).r.q (el ts (i.i)).r.n (el ts (i.i)).r.cap]) ((i.i)*5) (fun F ⟨hGl,hP⟩=>(hP).1) (by omega) rfl Jd rfl (fun j v hv=>XM (f:=Ya) (l:=ts) YH (by omega) hv))<|W7 (c1:=[]) (c2:=[]) rfl rfl (fun w F hF ⟨hGl,hP⟩=>Fb hF hGl (t:=el ts i.i) (hP.2.1 _ htm) (hz _ htm)) (fun _=>QE<|QC ?_)
  refine QR rfl (fun hc=>?_) (fun hc=>?_)
  ·
   refine J_sr<|JS_mv rfl<|JS_as rfl<|JS_nt<|QT ?_
   repeat (first | refine JJ ?_ | refine JA ?_)
   exact QQ (()) rfl (.tmp rfl .nil) (congrArg (Value.int .i64) (i.hit (by omega) (by rw [AS hlt];exact hc))) (fun F ⟨⟨hGl,hP⟩,_⟩=>trivial)
  ·
   refine QP<|Qk<|QC<|QB<|QA (Qu rfl rfl (by omega))<|JS_mv rfl<|QE ?_
   exact Qo (⟨i.i+1,by omega,i.dE (by omega) (by rw [AS hlt];exact hc)⟩) (by show ts.length - (i.i+1)<ts.length - i.i;omega) ⟨rfl,rfl,rfl,rfl,trivial⟩ subl_r (fun F h=>h.1)
 ·
  have hge:ts.length≤i.i:=by have:=dec_f hc;omega
  refine Q5 ?_
  repeat (first | refine Qd ?_ | refine QW (by rfl) ?_)
  refine Qe<|QC<|J_sr<|JS_as rfl<|JS_nt<|QT ?_
  exact QQ (()) rfl (.tmp rfl .nil) (congrArg (Value.int .i64) (i.stop (by omega))) (fun F ⟨hGl,hP⟩=>trivial)
theorem Sx {w:World} {F:Gs} {q:Option Addr} {n cap:Nat} {ts:List XO} (hF:Fits F w) (hP:Jm F ⟨q,n,cap⟩ ts (JF ts)) (hGl:JB F) (hz:∀ t∈ts,JL t.t.1≤100000000) (hl:ts.length≤1000000):QZ Tryz.prog 268 [.slice q n cap,.func (.func 269) #[] #[]] w F (.bool (Hc (JF ts))):=by
 refine QS.intro (G:=fun F=>JB F∧Jm F ⟨q,n,cap⟩ ts (JF ts)) Tryz.func268 rfl (by rfl) rfl rfl hF (fun F' hF'=>⟨hGl.le hF',hP.le hF'⟩)<|J_sr<|JS_as rfl<|JS_nt<|J_sr<|JS_mv rfl<|JS_mv rfl<|QI rfl (fun w F hF ⟨hGl,hP⟩=>Lr hF (hP) (hGl) (hz) (hl)) (fun _=>QA (QV rfl rfl rfl)<|JS_as rfl<|JS_nt<|QT ?_)
 exact QQ (()) rfl (.tmp rfl .nil) (congrArg Value.bool (by rw [show Hc (JF ts)=((JF ts).map fun t=>Xi t.1).any id by simp [Hc,List.any_map],← TU _ 0 (Int.le_refl _)])) (fun F ⟨⟨hGl,hP⟩,_⟩=>trivial)
theorem Ln {w:World} {F:Gs} {q:Option Addr} {n cap:Nat} {ts:List XO} (hF:Fits F w) (hP:Jm F ⟨q,n,cap⟩ ts (JF ts)) (hGl:JB F) (hz:∀ t∈ts,JL t.t.1≤100000000) (hl:ts.length≤1000000):QZ Tryz.prog 220 [.slice q n cap] w F (.bool (Hc (JF ts))):=by
 refine QS.intro (G:=fun F=>JB F∧Jm F ⟨q,n,cap⟩ ts (JF ts)) Tryz.func220 rfl (by rfl) rfl rfl hF (fun F' hF'=>⟨hGl.le hF',hP.le hF'⟩)<|J_sr<|JS_as rfl<|JS_nt<|J_sr<|JS_mv rfl<|QI rfl (fun w F hF ⟨hGl,hP⟩=>Sx hF (hP) (hGl) (hz) (hl)) (fun _=>JS_as rfl<|JS_nt<|QT ?_)
 exact QQ (()) rfl (.tmp rfl .nil) (rfl) (fun F ⟨⟨hGl,hP⟩,_⟩=>trivial)
end
section
open Go.RowKit Ig
def Bz (l:List Tm):Int:=Qm [if decide (qS l>12)=true then 4 else 0,if decide ((l.length:Int)>64)=true then 5 else 0,if Hc l=true then 4 else 0]
def Nl (l:List Tm):Pt:=if Bz l=0 then Da l else []
theorem VK.nil (F:Gs):VK F ⟨none,0,0⟩ [] []:=⟨Q9.nil F none 2,(fun _ h=>by cases h),rfl,Nat.le_refl _,rfl⟩
theorem Wo {w:World} {F:Gs} {q:Option Addr} {n cap:Nat} {ts:List XO} (hF:Fits F w) (hP:Jm F ⟨q,n,cap⟩ ts (JF ts)) (hGl:JB F) (hp:∀ t∈ts,PW t.t.2) (hz:∀ t∈ts,JL t.t.1≤100000000) (hl:ts.length≤1000000) :
  QS Tryz.prog 137 [.slice q n cap] w F (fun(c:Ku)=>.tuple #[c.1.v,.int .i64 (Bz (JF ts))]) (fun c F=>VK F c.1 c.2 (Nl (JF ts))):=by
 have hln:ts.length=n:=hP.2.2.2.2
 have hlen:(JF ts).length=n:=by rw [Y3];exact hln
 have hre:Bz (JF ts)=Qm [if decide (qS (JF ts)>12)=true then 4 else 0,if decide ((n:Int)>64)=true then 5 else 0,if Hc (JF ts)=true then 4 else 0]:=by unfold Bz;rw [hlen]
 refine QS.intro (G:=fun F=>JB F∧Jm F ⟨q,n,cap⟩ ts (JF ts)) Tryz.func137 rfl (by rfl) rfl rfl hF (fun F' hF'=>⟨hGl.le hF',hP.le hF'⟩)<|J_sr<|JS_as rfl<|JS_as rfl<|JS_nt<|QG<|J_sr<|JS_mv rfl<|QI rfl (fun w F hF ⟨hGl,hP⟩=>xQ hF (hP) (hp) (hl)) (fun _=>QA (QV rfl rfl rfl)<|QI rfl (fun w F hF ⟨⟨hGl,hP⟩,_⟩=>Zn hF ) (fun _=>JS_mv rfl<|QA (Ql rfl J1)<|QA (QV rfl rfl rfl)<|QI rfl (fun w F hF ⟨⟨⟨hGl,hP⟩,_⟩,_⟩=>Zn hF ) (fun _=>JS_mv rfl<|QI rfl (fun w F hF ⟨⟨⟨⟨hGl,hP⟩,_⟩,_⟩,_⟩=>Ln hF (hP) (hGl) (hz) (hl)) (fun _=>QI rfl (fun w F hF ⟨⟨⟨⟨⟨hGl,hP⟩,_⟩,_⟩,_⟩,_⟩=>Zn hF ) (fun _=>QU rfl (Q6 ZX) Yp Ho rfl rfl (fun b16=>QI rfl (fun w F hF ⟨⟨⟨⟨⟨⟨⟨hGl,hP⟩,_⟩,_⟩,_⟩,_⟩,_⟩,hs16⟩=>Zm hF (Q9.of (cs:=List.map Qx [if decide (qS (JF ts)>12)=true then 4 else 0,if decide ((n:Int)>64)=true then 5 else 0,if Hc (JF ts)=true then 4 else 0]) hs16 rfl) (by decide)) (fun _=>JS_as rfl<|QE ?_)))))))
 refine QC<|J_sr<|JS_mv rfl<|QA (QV rfl rfl rfl)<|QE<|QC ?_
 refine QR rfl (fun hc=>?_) (fun hc=>?_)
 ·
  have he:Bz (JF ts)≠0:=by rw [hre];exact bne_iff_ne.1 hc
  refine J_sr<|JS_mv rfl<|JS_as rfl<|JS_as rfl<|JS_nt<|QT ?_
  exact JY ((⟨none,0,0⟩,[])) rfl (.tmp rfl (.tmp rfl .nil)) (by rw [hre]) (fun F ⟨⟨⟨⟨⟨⟨⟨⟨hGl,hP⟩,_⟩,_⟩,_⟩,_⟩,_⟩,hs16⟩,_⟩=>by unfold Nl;rw [if_neg he];exact VK.nil F)
 ·
  have he:Bz (JF ts)=0:=by rw [hre];exact bne_eq_false_iff_eq.1 hc
  refine QP<|QC<|J_sr<|JS_mv rfl<|QI rfl (fun w F hF ⟨⟨⟨⟨⟨⟨⟨⟨hGl,hP⟩,_⟩,_⟩,_⟩,_⟩,_⟩,hs16⟩,_⟩=>Cb hF hGl (p:=(⟨q,n,cap⟩,ts)) hP hp hl hz) (fun c22=>JS_as rfl<|JS_as rfl<|JS_nt<|QT ?_)
  exact JY (c22) rfl (.tmp rfl (.tmp rfl .nil)) (by rw [he]) (fun F ⟨⟨⟨⟨⟨⟨⟨⟨⟨hGl,hP⟩,_⟩,_⟩,_⟩,_⟩,_⟩,hs16⟩,_⟩,h22⟩=>by unfold Nl;rw [if_pos he];exact h22)
end
section
open Go.RowKit Ig
def Zg (v:Int):Int:=if decide (v<0)=true∨decide (v>24)=true then 3 else 0
theorem Ks (v:Int):Zg v=0↔0≤v∧v≤24:=by unfold Zg;simp only [decide_eq_true_eq];split<;>omega
theorem IE {v:Int} (h:¬ v<0):Zg v=if decide (v>24)=true then 3 else 0:=by unfold Zg;simp [h]
def WN (l:List Int):Int:=(l.map fun k=>if 13<k then 13 else k).sum
def VS (f:List UInt8) (l:List Int) (v:Int):Int :=
 if(l.length:Int)≠v+1 then 2 else if l.any (fun k=>decide (k<0))=true then 3 else Qm [if decide (WN l>12)=true then 4 else 0,Jy f]
theorem IJ {l:List Int} {i:Nat} (h:i<l.length):WN (l.take (i+1))=WN (l.take i)+(if 13<Qg l i then 13 else Qg l i):=by
 unfold WN;rw [ZD h,List.map_append,List.sum_append,Xp h];simp
theorem NG (l:List Int) (h:∀ k∈l,0≤k):0≤WN l∧WN l≤13*l.length:=by
 induction l with
 |nil=>simp [WN]
 |cons x l ih =>
  have h1:=ih fun k hk=>h k (by simp [hk])
  have h2:=h x (by simp)
  have e:WN (x::l)=(if 13<x then 13 else x)+WN l:=by unfold WN;rw [List.map_cons,List.sum_cons]
  rw [e,List.length_cons];split<;>omega
structure dU (l:List Int) where
 i:Nat
 le:i≤l.length
 nn:∀ k∈l.take i,0≤k
theorem qc {l:List Int} {i:Nat} (h:i<l.length) (hn:Qg l i<0):l.any (fun k=>decide (k<0))=true:=by
 rw [List.any_eq_true];exact⟨el l i,Jc h,by rw [← Xp h];exact decide_eq_true hn⟩
theorem zD {l:List Int} (h:∀ k∈l,0≤k):¬ l.any (fun k=>decide (k<0))=true:=by
 rw [List.any_eq_true];rintro ⟨k,hk,e⟩;have:=dec_t e;have:=h k hk;omega
theorem GR {w:World} {F:Gs} {v:Int} (hF:Fits F w):QZ Tryz.prog 141 [.int .i64 v] w F (.int .i64 (Zg v)):=by
 refine QS.intro (G:=fun F=>True) Tryz.func141 rfl (by rfl) rfl rfl hF (fun F' hF'=>trivial)<|J_sr<|JS_as rfl<|JS_nt<|J_sr<|JS_mv rfl<|QA (QV rfl rfl rfl)<|JS_mv rfl ?_
 refine Qn (t:=5) rfl (fun hb5=>?_) (fun hb5=>?_)
 ·
  refine QO rfl rfl rfl<|QO rfl rfl rfl<|QA (Qi rfl rfl rfl)<|QI rfl (fun w F hF _=>Zn hF ) (fun _=>JS_as rfl<|JS_nt<|QT ?_)
  exact QQ (()) rfl (.tmp rfl .nil) (congrArg (Value.int .i64) (by unfold Zg;simp_all)) (fun F ⟨_,_⟩=>trivial)
 ·
  refine QL rfl rfl<|JS_mv rfl<|QL rfl rfl<|QA (QV rfl rfl rfl)<|QA (Qh rfl rfl rfl)<|QI rfl (fun w F hF _=>Zn hF ) (fun _=>JS_as rfl<|JS_nt<|QT ?_)
  exact QQ (()) rfl (.tmp rfl .nil) (congrArg (Value.int .i64) (IE (dec_f hb5))) (fun F ⟨_,_⟩=>trivial)
theorem qL {w:World} {F:Gs} {f:List UInt8} {q:Option Addr} {n cap:Nat} {l:List Int} {v:Int} (hF:Fits F w) (hGl:JB F) (hR:JP F ⟨q,n,cap⟩ l) (hf:f.length≤1000000) (hl:l.length≤1000000) (hv : -1000000≤v∧v≤1000000):QZ Tryz.prog 155 [.agg #[tx f,.slice q n cap],.int .i64 v] w F (.int .i64 (VS f l v)):=by
 have hln:l.length=n:=hR.2.1
 refine QS.intro (G:=fun F=>JB F∧JP F ⟨q,n,cap⟩ l) Tryz.func155 rfl (by rfl) rfl rfl hF (fun F' hF'=>⟨hGl.le hF',hR.le hF'⟩)<|J_sr<|Qw rfl (vs:=[_,_]) rfl (fun b2=>JS_as rfl<|JS_nt<|QG<|J_sr<|QA (QH rfl WI Qz)<|QA (Qj rfl Qz .here (.skip (.here .nil)))<|QA (Ql rfl Qf)<|JS_mv rfl<|QA (Qu rfl rfl (by omega))<|QA (QV rfl rfl rfl)<|QE<|QC ?_)
 refine QR rfl (fun hc=>?_) (fun hc=>?_)
 ·
  have hne:=bne_iff_ne.1 hc
  refine J_sr<|JS_as rfl<|JS_nt<|QT ?_
  exact QQ (()) rfl (.tmp rfl .nil) (congrArg (Value.int .i64) (by unfold VS;rw [if_pos (by rw [hln];exact hne)])) (fun F ⟨hGl,hR⟩=>trivial)
 ·
  have heq:=bne_eq_false_iff_eq.1 hc
  refine QP<|QC<|J_sr<|JS_as rfl<|JS_nt<|QG<|J_sr<|QA (QH rfl WI Qz)<|QA (Qj rfl Qz .here (.skip (.here .nil)))<|QA (Ql rfl Qf)<|JS_mv rfl<|JS_nt<|Qa<|Z3 (ι:=dU l) [(2,_),(15,_),(16,_)] (fun i=>[(5,.int .i64 (WN (l.take i.i))),(17,.int .i64 ((i.i:Nat):Int))]) (fun i=>l.length - i.i) (⟨0,Nat.zero_le _,by simp⟩) ⟨rfl,rfl,rfl,trivial⟩ ⟨rfl,rfl,trivial⟩ (fun i=>?_)
  simp only [List.cons_append,List.nil_append]
  have hi:=i.le
  have hb:=NG _ i.nn
  rw [List.length_take] at hb
  refine J_sr<|QA (QV rfl rfl rfl)<|JS_nt<|QG ?_
  refine QR rfl (fun hc=>?_) (fun hc=>?_)
  ·
   have hlt:i.i<l.length:=by have:=dec_t hc;omega
   refine QP<|QC<|QG<|Qa<|J_sr<|QA (Ja (n:=n) (i.i) (fun F ⟨hGl,hR⟩=>(hR).1) rfl rfl Qf Qp (by omega))<|QA (Jk (n:=n) ((i.i)*1) (fun F ⟨hGl,hR⟩=>(hR).1) (by omega) rfl Qp (JO (o:=l) (by omega)))<|JS_as rfl<|JS_nt<|QG<|J_sr<|JS_mv rfl<|QA (QV rfl rfl rfl)<|QE<|QC ?_
   refine QR rfl (fun hc=>?_) (fun hc=>?_)
   ·
    have hng:=dec_t hc
    refine J_sr<|JS_as rfl<|JS_nt<|QT ?_
    repeat (first | refine JJ ?_ | refine JA ?_)
    exact QQ (()) rfl (.tmp rfl .nil) (congrArg (Value.int .i64) (by unfold VS;rw [if_neg (by rw [hln];exact fun h=>h heq),if_pos (qc hlt hng)])) (fun F ⟨hGl,hR⟩=>trivial)
   ·
    have hng:=dec_f hc
    refine QP<|QC<|QB<|JS_mv rfl<|JS_mv rfl<|QA (jQ rfl rfl)<|QA (Qu rfl rfl (by omega))<|JS_as rfl<|QE<|Qk<|QC<|QB<|QA (Qu rfl rfl (by omega))<|JS_mv rfl<|QE ?_
    exact Qo (⟨i.i+1,hlt,by intro k hk;rw [ZD hlt] at hk;rcases List.mem_append.1 hk with hk | hk;exact i.nn k hk;rw [List.mem_singleton.1 hk,← Xp hlt];omega⟩) (by show l.length - (i.i+1)<l.length - i.i;omega) ⟨rfl,rfl,rfl,(congrArg (fun z:Int=>some (Value.int .i64 z)) (IJ hlt).symm),rfl,trivial⟩ subl_r (fun F h=>h)
  ·
   have hge:i.i=l.length:=by have:=dec_f hc;omega
   refine Q5 ?_
   repeat (first | refine Qd ?_ | refine QW (by rfl) ?_)
   refine Qe<|QC<|QG<|JN subl_r mixed (by kernel_rfl) ?_
   rw [hge,List.take_length]
   have hnn:=i.nn
   rw [hge,List.take_length] at hnn
   refine QK (QD rfl)<|QK (QV rfl rfl rfl)<|QY rfl (fun w F hF ⟨hGl,hR⟩=>Zn hF ) (fun _=>QK (QH rfl BS JR)<|QK (Qj rfl JR .here (.here .nil))<|QY rfl (fun w F hF ⟨⟨hGl,hR⟩,_⟩=>Ef hF hGl (hf)) (fun _=>?_))
   refine Jp rfl (Q6 ZX) Yp Ho rfl rfl (fun b34=>?_) (fun w h=>h.imp (.cons_cons _ .slnil) (fun F h=>h.1.1))
   refine QY rfl (fun w F hF ⟨⟨⟨⟨hGl,hR⟩,_⟩,_⟩,hs34⟩=>Zm hF (Q9.of (cs:=List.map Qx [if decide (WN l>12)=true then 4 else 0,Jy f]) hs34 rfl) (by decide)) (fun _=>QK (QF rfl)<|Q4<|QC<|QT ?_)
   exact QQ (()) rfl (.tmp rfl .nil) (congrArg (Value.int .i64) (by unfold VS;rw [if_neg (by rw [hln];exact fun h=>h heq),if_neg (zD hnn)])) (fun F ⟨⟨⟨⟨⟨hGl,hR⟩,_⟩,_⟩,hs34⟩,_⟩=>trivial)
end
section
open Go.RowKit Ig
theorem K8 {a b:Int} (h:Qm [a,b]=0):a=0∧b=0:=by
 unfold Qm at h
 by_cases g:a=0
 ·rw [if_pos g] at h
  unfold Qm at h
  by_cases k:b=0
  ·exact⟨g,k⟩
  ·rw [if_neg k] at h;exact⟨g,h⟩
 ·rw [if_neg g] at h;exact absurd h g
def WV (p:Pt) (v:Int) (i:Nat):Int :=
 let e:=Qm [VS (el p i).1 (el p i).2 v,if((el p i).1==[48])=true then 6 else 0]
 if e=0∧0<i∧0≤VC (el p (i - 1)).2 (el p i).2 then 11 else e
def Xs (p:Pt) (v:Int):Int:=if decide ((p.length:Int)>64)=true then 5 else Qm ((List.range p.length).map (WV p v))
theorem Tf {n i:Nat} (h:i<n):el (List.range n) i=i:=by rw [Za (by simpa using h)];simp
theorem Hj {ts:List GA} {i:Nat} (h:i<ts.length):el (XB ts) i=((el ts i).f,(el ts i).k):=by rw [Za (by simpa [XB] using h),Za h];simp [XB]
theorem AF {l:List Int} (h:∀ k∈l,0≤k) (hc:WN l≤12):∀ k∈l,k≤12:=by
 induction l with
 |nil=>intro k hk;cases hk
 |cons x l ih =>
  have hl:∀ k∈l,0≤k:=fun k hk=>h k (by simp [hk])
  have h1:=(NG l hl).1
  have h2:=h x (by simp)
  have e:WN (x::l)=(if 13<x then 13 else x)+WN l:=by unfold WN;rw [List.map_cons,List.sum_cons]
  rw [e] at hc
  intro k hk
  rcases List.mem_cons.1 hk with rfl | hk
  ·split at hc<;>omega
  ·refine ih hl ?_ k hk
   split at hc<;>omega
theorem Ky {f:List UInt8} {l:List Int} {v:Int} (h:VS f l v=0):(l.length:Int)=v+1∧(∀ k∈l,0≤k∧k≤12)∧WN l≤12∧Jy f=0:=by
 unfold VS at h
 split at h
 ·omega
 ·rename_i h1
  split at h
  ·omega
  ·rename_i h2
   have hn:∀ k∈l,0≤k:=fun k hk=>by
    rcases Int.lt_or_le k 0 with g | g
    ·exact absurd (List.any_eq_true.2 ⟨k,hk,decide_eq_true g⟩) h2
    ·exact g
   obtain ⟨g1,g2⟩:=K8 h
   have hc:WN l≤12:=by
    rcases Int.lt_or_le 12 (WN l) with g | g
    ·rw [if_pos (decide_eq_true g)] at g1;omega
    ·exact g
   exact⟨by omega,fun k hk=>⟨hn k hk,AF hn hc k hk⟩,hc,g2⟩
theorem V7 {f:List UInt8} {l:List Int} {v:Int} (h:VS f l v=0) (hv:v≤24):PW l:=by
 obtain ⟨h1,h2,_⟩:=Ky h
 exact⟨fun k hk=>by have:=h2 k hk;omega,by omega⟩
theorem PB {p:Pt} {v:Int} {i:Nat} (h:WV p v i=0):VS (el p i).1 (el p i).2 v=0∧(el p i).1≠[48]∧(0<i→VC (el p (i - 1)).2 (el p i).2<0):=by
 unfold WV at h
 dsimp only at h
 by_cases g:Qm [VS (el p i).1 (el p i).2 v,if((el p i).1==[48])=true then 6 else 0]=0∧0<i∧0≤VC (el p (i - 1)).2 (el p i).2
 ·rw [if_pos g] at h;omega
 ·rw [if_neg g] at h
  obtain ⟨h1,h2'⟩:=K8 h
  have h2:(el p i).1≠[48]:=by
   intro q
   rw [if_pos (by rw [q];rfl)] at h2'
   omega
  refine⟨h1,h2,fun hi=>?_⟩
  rcases Int.lt_or_le (VC (el p (i - 1)).2 (el p i).2) 0 with q | q
  ·exact q
  ·exact absurd ⟨h,hi,q⟩ g
structure Ou (p:Pt) (v:Int) (n:Nat) where
 i:Nat
 le:i≤n
 z:∀ j,j<i→WV p v j=0
def Ou.scan {p:Pt} {v:Int} {n:Nat} (s:Ou p v n):Yj (List.range n) (WV p v):=⟨s.i,by rw [List.length_range];exact s.le,by
 have key:∀ i,i≤n→(∀ j,j<i→WV p v j=0)→Qm ((List.range n).map (WV p v))=Qm (((List.range n).map (WV p v)).drop i):=by
  intro i
  induction i with
  |zero=>intro _ _;rfl
  |succ i ih =>
   intro hi hz
   rw [ih (by omega) (fun j hj=>hz j (by omega)),KD (by simp;omega) (by simp;exact hz i (by omega))]
 exact key s.i s.le s.z⟩
theorem ET {p:Pt} {v x:Int} {n:Nat} (hn:p.length=n) (hp:¬ (n:Int)>64) (s:Ou p v n) (h:s.i<n) (hs:WV p v s.i=x) (hx:x≠0):Xs p v=x:=by
 unfold Xs
 rw [hn,if_neg (by rw [decide_eq_true_eq];exact hp),s.scan.hit (by rw [List.length_range];exact h) (by rw [show s.scan.i=s.i from rfl,Tf h,hs];exact hx),show s.scan.i=s.i from rfl,Tf h,hs]
theorem I6 {p:Pt} {v:Int} {n:Nat} (hn:p.length=n) (hp:¬ (n:Int)>64) (s:Ou p v n) (h:n≤s.i):Xs p v=0:=by
 unfold Xs
 rw [hn,if_neg (by rw [decide_eq_true_eq];exact hp),s.scan.stop (by rw [List.length_range];exact h)]
theorem step_eq {ps:List GA} {v E:Int} {i:Nat} (h:i<ps.length) (hE:Qm [VS (el ps i).f (el ps i).k v,if((el ps i).f==[48])=true then 6 else 0]=E):WV (XB ps) v i=if E=0∧0<i∧0≤VC (el ps (i - 1)).k (el ps i).k then 11 else E:=by
 unfold WV
 rw [Hj h,Hj (show i - 1<ps.length by omega)]
 dsimp only
 rw [hE]
theorem BU {w:World} {F:Gs} {q:Option Addr} {n cap:Nat} {ps:List GA} {v:Int} (hF:Fits F w) (hGl:JB F) (hR:Q9 F q n 2 (ps.flatMap WQ)) (hP:Yc F ps) (hln:ps.length=n) (hf:∀ t∈ps,t.f.length≤1000000∧t.k.length≤1000000) (hl:ps.length≤1000000) (hv:0≤v∧v≤24):QZ Tryz.prog 143 [.slice q n cap,.int .i64 v] w F (.int .i64 (Xs (XB ps) v)):=by
 have hal:(XB ps).length=n:=by unfold XB;rw [List.length_map];exact hln
 refine QS.intro (G:=fun F=>JB F∧Q9 F q n 2 (ps.flatMap WQ)∧Yc F ps) Tryz.func143 rfl (by rfl) rfl rfl hF (fun F' hF'=>⟨hGl.le hF',hR.le hF',hP.le hF'⟩)<|J_sr<|JS_as rfl<|JS_nt<|QG<|J_sr<|JS_mv rfl<|QA (Ql rfl Zh)<|QA (QV rfl rfl rfl)<|QE<|QC ?_
 refine QR rfl (fun hc=>?_) (fun hc=>?_)
 ·
  have hbig:=hc
  refine J_sr<|JS_as rfl<|JS_nt<|QT ?_
  exact QQ (()) rfl (.tmp rfl .nil) (congrArg (Value.int .i64) (by unfold Xs;rw [hal,if_pos hbig])) (fun F ⟨hGl,hR,hP⟩=>trivial)
 ·
  have hbig:=dec_f hc
  refine QP<|QC<|QG<|J_sr<|JS_mv rfl<|QA (Ql rfl Zh)<|JS_mv rfl<|JS_nt<|Qa<|Z3 (ι:=Ou (XB ps) v n) [(0,_),(1,_),(11,_),(12,_)] (fun i=>[(13,.int .i64 ((i.i:Nat):Int))]) (fun i=>n - i.i) (⟨0,Nat.zero_le _,fun j hj=>absurd hj (Nat.not_lt_zero _)⟩) ⟨rfl,rfl,rfl,rfl,trivial⟩ ⟨rfl,trivial⟩ (fun i=>?_)
  simp only [List.cons_append,List.nil_append]
  have hi:=i.le
  refine J_sr<|QA (QV rfl rfl rfl)<|JS_nt<|QG ?_
  refine QR rfl (fun hc=>?_) (fun hc=>?_)
  ·
   have hlt:i.i<n:=by have:=dec_t hc;omega
   have htm:el ps i.i∈ps:=Jc (by omega)
   refine QP<|QC<|QG<|Qa<|J_sr<|JS_mv rfl<|QA (Ja (n:=n) (i.i) (fun F ⟨hGl,hR,hP⟩=>hR) rfl rfl Zh Xr (by omega))<|QA (X2 (n:=n) (vs:=[tx (el ps (i.i)).f,.slice (el ps (i.i)).r.q (el ps (i.i)).r.n (el ps (i.i)).r.cap]) ((i.i)*2) (fun F ⟨hGl,hR,hP⟩=>hR) (by omega) rfl Xr rfl (fun j v hv=>XM (f:=WQ) (l:=ps) VY (by omega) hv))<|Qb Xe (fun b6=>JS_as rfl<|QN (vs:=[_,_]) rfl rfl rfl Xr rfl .here (.here (.here .nil)) ⟨rfl,rfl,trivial⟩<|JS_nt<|QG<|JN subl_r mixed (by kernel_rfl)<|QK (QJ (vs:=[_,_]) rfl Xr .here (.here (.here .nil)) rfl)<|QK (QD rfl)<|QY rfl (fun w F hF ⟨hGl,hR,hP⟩=>qL hF (hGl) (f:=(el ps i.i).f) (l:=(el ps i.i).k) (hP _ htm) ((hf _ htm).1) ((hf _ htm).2) (by omega)) (fun _=>QK (QH rfl BS JR)<|QK (Qj rfl JR .here (.here .nil))<|QK (K3 rfl rfl)<|QY rfl (fun w F hF ⟨⟨hGl,hR,hP⟩,_⟩=>Zn hF ) (fun _=>?_)))
   refine Jp rfl (Q6 ZX) Yp Ho rfl rfl (fun b25=>?_) (fun w h=>h.imp (.cons_cons _ .slnil) (fun F h=>h.1.1))
   refine QY rfl (fun w F hF ⟨⟨⟨⟨hGl,hR,hP⟩,_⟩,_⟩,hs25⟩=>Zm hF (Q9.of (cs:=List.map Qx [VS (el ps i.i).f (el ps i.i).k v,if((el ps i.i).f==[48])=true then 6 else 0]) hs25 rfl) (by decide)) (fun _=>QK (QF rfl)<|Q4<|QC<|QG<|QG<|JN subl_r mixed (by kernel_rfl) ?_)
   generalize hE:Qm [VS (el ps i.i).f (el ps i.i).k v,if((el ps i.i).f==[48])=true then 6 else 0]=E
   have hst:=step_eq (v:=v) (show i.i<ps.length by omega) hE
   refine QK (QD rfl)<|QK (QV rfl rfl rfl)<|QK (QD rfl) ?_
   refine Bl (t:=29) rfl (fun hb29=>?_) (fun hb29=>?_)
   ·
    refine Jw rfl rfl<|QK (QD rfl)<|Jw rfl rfl<|QK (QV rfl rfl rfl)<|QK (Qi rfl rfl rfl)<|QK (QD rfl) ?_
    refine Bl (t:=33) rfl (fun hb33=>?_) (fun hb33=>?_)
    ·
     refine Jw rfl rfl<|QK (QD rfl)<|Jw rfl rfl<|QK (QD rfl)<|Jw rfl rfl<|QK (J6 rfl rfl (by omega))<|Jw rfl rfl ?_
     have hi0:0<i.i:=by have:=dec_t hb33;omega
     refine QK (Ja (n:=n) ((i.i - 1)) (fun F ⟨⟨⟨⟨⟨hGl,hR,hP⟩,_⟩,_⟩,hs25⟩,_⟩=>hR) rfl (congrArg (fun z:Int=>some (Value.int .i64 z)) (by omega)) Zh Xr (by omega))<|Jw rfl rfl<|QK (QH rfl WI Qz)<|Jw rfl rfl<|QK (Jk (n:=n) (((i.i - 1))*2+1) (fun F ⟨⟨⟨⟨⟨hGl,hR,hP⟩,_⟩,_⟩,hs25⟩,_⟩=>hR) (by omega) rfl Qz (XM (f:=WQ) (l:=ps) VY (by omega) rfl))<|Jw rfl rfl<|QK (QH rfl WI Qz)<|Jw rfl rfl<|QK (Qj rfl Qz .here (.skip (.here .nil)))<|Jw rfl rfl ?_
     have hz0:=(PB (i.z (i.i - 1) (by omega))).1
     rw [Hj (show i.i - 1<ps.length by omega)] at hz0
     have hE0:E=0:=eq_of_beq hb29
     obtain ⟨hz1,_⟩:=K8 (hE.trans hE0)
     have htm0:el ps (i.i - 1)∈ps:=Jc (by omega)
     refine QY rfl (fun w F hF ⟨⟨⟨⟨⟨hGl,hR,hP⟩,_⟩,_⟩,hs25⟩,_⟩=>HM hF (ra:=(el ps (i.i - 1)).r) (rb:=(el ps i.i).r) (hP _ htm0) (hP _ htm) (V7 hz0 hv.2) (V7 hz1 hv.2)) (fun _=>Jw rfl rfl<|QK (QV rfl rfl rfl)<|QK (Qi rfl rfl rfl)<|Q4<|QC ?_)
     refine QR rfl (fun hc=>?_) (fun hc=>?_)
     ·
      have h44:=dec_t hc
      refine QB<|JS_as rfl<|JS_nt<|J_sr<|JS_mv rfl<|QA (QV rfl rfl rfl)<|QE<|QC ?_
      refine QR rfl (fun hc=>?_) (fun hc=>?_)
      ·
       refine J_sr<|JS_mv rfl<|JS_as rfl<|JS_nt<|QT ?_
       repeat (first | refine JJ ?_ | refine JA ?_)
       exact QQ (()) rfl (.tmp rfl .nil) (congrArg (Value.int .i64) (ET hal hbig i hlt (by first | (rw [hst];exact if_pos ⟨eq_of_beq hb29,by have:=dec_t hb33;omega,h44⟩) | (rw [hst];exact if_neg (fun h=>h44 h.2.2)) | (rw [hst];exact if_neg (fun h=>by have:=dec_f hb33;omega)) | (rw [hst];exact if_neg (fun h=>by rw [h.1] at hb29;cases hb29))) (bne_iff_ne.1 hc))) (fun F ⟨⟨⟨⟨⟨⟨hGl,hR,hP⟩,_⟩,_⟩,hs25⟩,_⟩,_⟩=>trivial)
      ·
       refine QP<|Qk<|QC<|QB<|QA (Qu rfl rfl (by omega))<|JS_mv rfl<|QE ?_
       exact Qo (⟨i.i+1,hlt,fun j hj=>by
        rcases Nat.lt_or_ge j i.i with g | g
        ·exact i.z j g
        ·rw [show j=i.i from by omega];first | exact absurd hc (by decide) | (rw [hst,if_neg (fun h=>h44 h.2.2)];exact bne_eq_false_iff_eq.1 hc) | (rw [hst,if_neg (fun h=>by have:=dec_f hb33;omega)];exact bne_eq_false_iff_eq.1 hc) | (rw [hst,if_neg (fun h=>by rw [h.1] at hb29;cases hb29)];exact bne_eq_false_iff_eq.1 hc)⟩) (by show n - (i.i+1)<n - i.i;omega) ⟨rfl,rfl,rfl,rfl,rfl,trivial⟩ (.cons _ .slnil) (fun F h=>h.1.1.1.1.1)
     ·
      have h44:=dec_f hc
      refine QP<|QC<|J_sr<|JS_mv rfl<|QA (QV rfl rfl rfl)<|QE<|QC ?_
      refine QR rfl (fun hc=>?_) (fun hc=>?_)
      ·
       refine J_sr<|JS_mv rfl<|JS_as rfl<|JS_nt<|QT ?_
       repeat (first | refine JJ ?_ | refine JA ?_)
       exact QQ (()) rfl (.tmp rfl .nil) (congrArg (Value.int .i64) (ET hal hbig i hlt (by first | (rw [hst];exact if_pos ⟨eq_of_beq hb29,by have:=dec_t hb33;omega,h44⟩) | (rw [hst];exact if_neg (fun h=>h44 h.2.2)) | (rw [hst];exact if_neg (fun h=>by have:=dec_f hb33;omega)) | (rw [hst];exact if_neg (fun h=>by rw [h.1] at hb29;cases hb29))) (bne_iff_ne.1 hc))) (fun F ⟨⟨⟨⟨⟨⟨hGl,hR,hP⟩,_⟩,_⟩,hs25⟩,_⟩,_⟩=>trivial)
      ·
       refine QP<|Qk<|QC<|QB<|QA (Qu rfl rfl (by omega))<|JS_mv rfl<|QE ?_
       exact Qo (⟨i.i+1,hlt,fun j hj=>by
        rcases Nat.lt_or_ge j i.i with g | g
        ·exact i.z j g
        ·rw [show j=i.i from by omega];first | exact absurd hc (by decide) | (rw [hst,if_neg (fun h=>h44 h.2.2)];exact bne_eq_false_iff_eq.1 hc) | (rw [hst,if_neg (fun h=>by have:=dec_f hb33;omega)];exact bne_eq_false_iff_eq.1 hc) | (rw [hst,if_neg (fun h=>by rw [h.1] at hb29;cases hb29)];exact bne_eq_false_iff_eq.1 hc)⟩) (by show n - (i.i+1)<n - i.i;omega) ⟨rfl,rfl,rfl,rfl,rfl,trivial⟩ (.cons _ .slnil) (fun F h=>h.1.1.1.1.1)
    ·
     refine Js rfl rfl rfl<|Js rfl rfl rfl<|Js rfl rfl rfl<|Js rfl rfl rfl<|Js rfl rfl rfl<|Js rfl rfl rfl<|Js rfl rfl rfl<|Js rfl rfl rfl<|Js rfl rfl rfl<|Js rfl rfl rfl<|QK (Qh rfl rfl rfl)<|Q4<|QC<|Z8 rfl<|QP<|QC<|J_sr<|JS_mv rfl<|QA (QV rfl rfl rfl)<|QE<|QC ?_
     refine QR rfl (fun hc=>?_) (fun hc=>?_)
     ·
      refine J_sr<|JS_mv rfl<|JS_as rfl<|JS_nt<|QT ?_
      repeat (first | refine JJ ?_ | refine JA ?_)
      exact QQ (()) rfl (.tmp rfl .nil) (congrArg (Value.int .i64) (ET hal hbig i hlt (by first | (rw [hst];exact if_pos ⟨eq_of_beq hb29,by have:=dec_t hb33;omega,h44⟩) | (rw [hst];exact if_neg (fun h=>h44 h.2.2)) | (rw [hst];exact if_neg (fun h=>by have:=dec_f hb33;omega)) | (rw [hst];exact if_neg (fun h=>by rw [h.1] at hb29;cases hb29))) (bne_iff_ne.1 hc))) (fun F ⟨⟨⟨⟨⟨hGl,hR,hP⟩,_⟩,_⟩,hs25⟩,_⟩=>trivial)
     ·
      refine QP<|Qk<|QC<|QB<|QA (Qu rfl rfl (by omega))<|JS_mv rfl<|QE ?_
      exact Qo (⟨i.i+1,hlt,fun j hj=>by
        rcases Nat.lt_or_ge j i.i with g | g
        ·exact i.z j g
        ·rw [show j=i.i from by omega];first | exact absurd hc (by decide) | (rw [hst,if_neg (fun h=>h44 h.2.2)];exact bne_eq_false_iff_eq.1 hc) | (rw [hst,if_neg (fun h=>by have:=dec_f hb33;omega)];exact bne_eq_false_iff_eq.1 hc) | (rw [hst,if_neg (fun h=>by rw [h.1] at hb29;cases hb29)];exact bne_eq_false_iff_eq.1 hc)⟩) (by show n - (i.i+1)<n - i.i;omega) ⟨rfl,rfl,rfl,rfl,rfl,trivial⟩ (.cons _ .slnil) (fun F h=>h.1.1.1.1)
   ·
    refine Js rfl rfl rfl<|Js rfl rfl rfl<|QK (Qh rfl rfl rfl)<|QK (QD rfl)<|Js rfl rfl rfl<|Js rfl rfl rfl<|Js rfl rfl rfl<|Js rfl rfl rfl<|Js rfl rfl rfl<|Js rfl rfl rfl<|Js rfl rfl rfl<|Js rfl rfl rfl<|Js rfl rfl rfl<|Js rfl rfl rfl<|QK (Qh rfl rfl rfl)<|Q4<|QC<|Z8 rfl<|QP<|QC<|J_sr<|JS_mv rfl<|QA (QV rfl rfl rfl)<|QE ?_
    refine QC ?_
    refine QR rfl (fun hc=>?_) (fun hc=>?_)
    ·
     refine J_sr<|JS_mv rfl<|JS_as rfl<|JS_nt<|QT ?_
     repeat (first | refine JJ ?_ | refine JA ?_)
     exact QQ (()) rfl (.tmp rfl .nil) (congrArg (Value.int .i64) (ET hal hbig i hlt (by first | (rw [hst];exact if_pos ⟨eq_of_beq hb29,by have:=dec_t hb33;omega,h44⟩) | (rw [hst];exact if_neg (fun h=>h44 h.2.2)) | (rw [hst];exact if_neg (fun h=>by have:=dec_f hb33;omega)) | (rw [hst];exact if_neg (fun h=>by rw [h.1] at hb29;cases hb29))) (bne_iff_ne.1 hc))) (fun F ⟨⟨⟨⟨⟨hGl,hR,hP⟩,_⟩,_⟩,hs25⟩,_⟩=>trivial)
    ·
     refine QP<|Qk<|QC<|QB<|QA (Qu rfl rfl (by omega))<|JS_mv rfl<|QE ?_
     exact Qo (⟨i.i+1,hlt,fun j hj=>by
        rcases Nat.lt_or_ge j i.i with g | g
        ·exact i.z j g
        ·rw [show j=i.i from by omega];first | exact absurd hc (by decide) | (rw [hst,if_neg (fun h=>h44 h.2.2)];exact bne_eq_false_iff_eq.1 hc) | (rw [hst,if_neg (fun h=>by have:=dec_f hb33;omega)];exact bne_eq_false_iff_eq.1 hc) | (rw [hst,if_neg (fun h=>by rw [h.1] at hb29;cases hb29)];exact bne_eq_false_iff_eq.1 hc)⟩) (by show n - (i.i+1)<n - i.i;omega) ⟨rfl,rfl,rfl,rfl,rfl,trivial⟩ (.cons _ .slnil) (fun F h=>h.1.1.1.1)
  ·
   have hge:n≤i.i:=by have:=dec_f hc;omega
   refine Q5 ?_
   repeat (first | refine Qd ?_ | refine QW (by rfl) ?_)
   refine Qe<|QC<|J_sr<|JS_as rfl<|JS_nt<|QT ?_
   exact QQ (()) rfl (.tmp rfl .nil) (congrArg (Value.int .i64) (I6 hal hbig i hge)) (fun F ⟨hGl,hR,hP⟩=>trivial)
end
section
open Go.RowKit Ig
theorem Rq {w:World} {F:Gs} {q:Option Addr} {n cap b:Nat} {ps:List GA} {v:Int} (hF:Fits F w) (hGl:JB F) (hB:F b=some (#[.int .i64 v],3)) (hR:Q9 F q n 2 (ps.flatMap WQ)) (hP:Yc F ps) (hln:ps.length=n) (hf:∀ t∈ps,t.f.length≤1000000∧t.k.length≤1000000) (hl:ps.length≤1000000) (hv:0≤v∧v≤24):QZ Tryz.prog 208 [.slice q n cap,.pointer (some ⟨b,0,none⟩)] w F (.int .i64 (Xs (XB ps) v)):=by
 refine QS.intro (G:=fun F=>JB F∧F b=some (#[.int .i64 v],3)∧Q9 F q n 2 (ps.flatMap WQ)∧Yc F ps) Tryz.func208 rfl (by rfl) rfl rfl hF (fun F' hF'=>⟨hGl.le hF',hF' _ _ hB,hR.le hF',hP.le hF'⟩)<|J_sr<|JS_as rfl<|JS_nt<|J_sr<|JS_mv rfl<|QA (Ma (c:=#[.int .i64 v]) (T':=3) rfl Qp (fun F ⟨hGl,hB,hR,hP⟩=>hB) rfl)<|QI rfl (fun w F hF ⟨hGl,hB,hR,hP⟩=>BU hF (hGl) (hR) (hP) (hln) (hf) (hl) (hv)) (fun _=>JS_as rfl<|JS_nt<|QT ?_)
 exact QQ (()) rfl (.tmp rfl .nil) (rfl) (fun F ⟨⟨hGl,hB,hR,hP⟩,_⟩=>trivial)
end
section
open Go.RowKit Ig
instance :Inhabited Ku:=⟨(⟨none,0,0⟩,[])⟩
section
variable [Dr] [df:Df] {P:Program} {N:Nat} {m:Sl} {S:World→Prop} {ty:TypeId}
theorem MZ {g:FuncId} {cap:Array Operand} {vs:List Value} (hv:EE m cap.toList=some vs):Qt P N m S (.makeFunc (.func g) #[] cap) ty (.func (.func g) #[] vs.toArray):=fun a w _ _ _ _ ha _=>by
 have:=ha.EE hv
 have e:cap.map a.eval=vs.toArray:=by rw [← this];apply Array.ext';simp
 simp [execOp,Instr.makeFunc,e]
end
def YD (F:Gs) (ls:List Ku):Prop:=∀ e∈ls,Q9 F e.1.q e.1.n 2 (e.2.flatMap WQ)∧Yc F e.2
theorem YD.le {F F':Gs} {ls:List Ku} (h:YD F ls) (k:Gs.le F F'):YD F' ls:=fun e he=>⟨(h e he).1.le k,(h e he).2.le k⟩
def VN (e:Ku):Prop:=e.2.length=e.1.n∧(∀ t∈e.2,t.f.length≤1000000∧t.k.length≤1000000)∧e.2.length≤1000000
def Vv (ls:List Ku) (v:Int):Int:=if Zg v=0 then Qm (ls.map fun e=>Xs (XB e.2) v) else Zg v
theorem U5 {w:World} {F:Gs} {q:Option Addr} {n c f:Nat} {ls:List Ku} {fE:Ku→Int} {c1 c2:List Value} {G0:Gs→Prop} (hF:Fits F w) (hg:∀ F F',Gs.le F F'→G0 F→G0 F') (h0:G0 F) (hR:Q9 F q n 1 (ls.map fun e=>e.1.v)) (hn:ls.length=n) (hb:n≤1000000) (hc:∀ e∈ls,∀ w F,Fits F w→G0 F→QZ Tryz.prog f (c1++[e.1.v]++c2) w F (.int .i64 (fE e))) :
  QZ Tryz.prog 207 [.slice q n c,.func (.func f) c1.toArray c2.toArray] w F (.int .i64 (Qm (ls.map fE))):=by
 refine QS.intro (G:=fun F=>G0 F∧Q9 F q n 1 (ls.map fun e=>e.1.v)) Tryz.func207 rfl (by rfl) rfl rfl hF (fun F' hF'=>⟨hg F F' hF' h0,hR.le hF'⟩)<|J_sr<|JS_as rfl<|JS_nt<|QG<|J_sr<|JS_mv rfl<|QA (Ql rfl Dc)<|JS_mv rfl<|JS_nt<|Qa<|Z3 (ι:=Yj ls fE) [(1,_),(8,_),(9,_)] (fun i=>[(10,.int .i64 ((i.i:Nat):Int))]) (fun i=>ls.length - i.i) (Yj.start _ _) ⟨rfl,rfl,rfl,trivial⟩ ⟨rfl,trivial⟩ (fun i=>?_)
 simp only [List.cons_append,List.nil_append]
 have hi:=i.le
 refine J_sr<|QA (QV rfl rfl rfl)<|JS_nt<|QG ?_
 refine QR rfl (fun hc2=>?_) (fun hc2=>?_)
 ·
  have hlt:i.i<ls.length:=by have:=dec_t hc2;omega
  have hem:=Jc hlt
  refine QP<|QC<|QG<|Qa<|J_sr<|QA (Ja (n:=n) (i.i) (fun F ⟨hG0,hR⟩=>hR) rfl rfl Dc ME (by omega))<|QA (Jk (n:=n) ((i.i)*1) (fun F ⟨hG0,hR⟩=>hR) (by omega) rfl ME (Mr (f:=fun e:Ku=>e.1.v) (l:=ls) (by omega)))<|JS_as rfl<|JS_nt<|J_sr<|JS_mv rfl<|JS_mv rfl<|W7 (c1:=c1) (c2:=c2) rfl rfl (fun w F hF ⟨hG0,hR⟩=>hc _ hem w F hF hG0) (fun _=>JS_as rfl<|JS_nt<|J_sr<|JS_mv rfl<|QA (QV rfl rfl rfl)<|QE<|QC ?_)
  refine QR rfl (fun hc2=>?_) (fun hc2=>?_)
  ·
   have h18:=bne_iff_ne.1 hc2
   refine J_sr<|JS_mv rfl<|JS_as rfl<|JS_nt<|QT ?_
   repeat (first | refine JJ ?_ | refine JA ?_)
   exact QQ (()) rfl (.tmp rfl .nil) (congrArg (Value.int .i64) (i.hit hlt h18)) (fun F ⟨⟨hG0,hR⟩,_⟩=>trivial)
  ·
   have h18:=bne_eq_false_iff_eq.1 hc2
   refine QP<|Qk<|QC<|QB<|QA (Qu rfl rfl (by omega))<|JS_mv rfl<|QE ?_
   exact Qo (i.next hlt h18) (by show ls.length - (i.i+1)<ls.length - i.i;omega) ⟨rfl,rfl,rfl,rfl,trivial⟩ subl_r (fun F h=>h.1)
 ·
  have hge:ls.length≤i.i:=by have:=dec_f hc2;omega
  refine Q5 ?_
  repeat (first | refine Qd ?_ | refine QW (by rfl) ?_)
  refine Qe<|QC<|J_sr<|JS_as rfl<|JS_nt<|QT ?_
  exact QQ (()) rfl (.tmp rfl .nil) (congrArg (Value.int .i64) (i.stop hge)) (fun F ⟨hG0,hR⟩=>trivial)
theorem Hi {w:World} {F:Gs} {q:Option Addr} {n c:Nat} {ls:List Ku} {v:Int} (hF:Fits F w) (hGl:JB F) (hR:Q9 F q n 1 (ls.map fun e=>e.1.v)) (hA:YD F ls) (hn:ls.length=n) (hb:n≤1000000) (ht:∀ e∈ls,VN e) :
  QZ Tryz.prog 128 [.int .i64 v,.slice q n c] w F (.int .i64 (Vv ls v)):=by
 refine QS.intro (G:=fun F=>JB F∧Q9 F q n 1 (ls.map fun e=>e.1.v)∧YD F ls) Tryz.func128 rfl (by rfl) rfl rfl hF (fun F' hF'=>⟨hGl.le hF',hR.le hF',hA.le hF'⟩)<|J_sr<|Qw rfl (vs:=[_]) rfl (fun b2=>JS_as rfl<|JS_nt<|QG<|J_sr<|QA (Qj rfl Qp .here (.here .nil))<|QI rfl (fun w F hF ⟨hGl,hR,hA⟩=>GR hF ) (fun _=>JS_as rfl<|JS_nt<|J_sr<|JS_mv rfl<|QA (QV rfl rfl rfl)<|QE<|QC ?_))
 refine QR rfl (fun hc=>?_) (fun hc=>?_)
 ·
  have hc0:=bne_iff_ne.1 hc
  refine J_sr<|JS_mv rfl<|JS_as rfl<|JS_nt<|QT ?_
  exact QQ (()) rfl (.tmp rfl .nil) (congrArg (Value.int .i64) (by unfold Vv;rw [if_neg hc0])) (fun F ⟨⟨hGl,hR,hA⟩,_⟩=>trivial)
 ·
  have hc0:=bne_eq_false_iff_eq.1 hc
  have hv:=(Ks v).1 hc0
  refine QP<|QC<|J_sr<|JS_mv rfl<|DM (b:=b2) .here<|QA (MZ rfl)<|QI rfl (fun w F hF ⟨⟨⟨hGl,hR,hA⟩,_⟩,hB⟩=>U5 (f:=208) (fE:=fun e=>Xs (XB e.2) v) (c1:=[]) (c2:=[.pointer (some ⟨b2,0,none⟩)]) (G0:=fun F=>JB F∧YD F ls∧F b2=some (#[.int .i64 v],3)) hF (fun F F' hle h=>⟨h.1.le hle,h.2.1.le hle,hle _ _ h.2.2⟩) ⟨hGl,hA,hB⟩ hR hn hb (fun e he w F hF h=>Rq hF h.1 h.2.2 (h.2.1 e he).1 (h.2.1 e he).2 (ht e he).1 (ht e he).2.1 (ht e he).2.2 hv)) (fun _=>JS_as rfl<|JS_nt<|QT ?_)
  exact QQ (()) rfl (.tmp rfl .nil) (congrArg (Value.int .i64) (by unfold Vv;rw [if_pos hc0])) (fun F ⟨⟨⟨⟨hGl,hR,hA⟩,_⟩,hB⟩,_⟩=>trivial)
end
section
open Go.RowKit Ig
def JG (p:Pt):List Tm:=p.map fun x=>(Ju x.1,x.2)
theorem SP (ts:List GA):ts.map O3=JG (XB ts):=by simp [JG,XB,O3]
theorem Pe:∀ (p:List Tm) (t:Tm),(ZY p t).length≤p.length+1
 |[],t=>by
  unfold ZY;split<;>simp
 |x::p,t=>by
  have:=Pe p t
  unfold ZY
  repeat' split
  all_goals simp only [List.length_cons]
  all_goals omega
theorem TE:∀ (l p:List Tm),(l.foldl ZY p).length≤p.length+l.length
 |[],p=>by simp
 |t::l,p=>by
  have h1:=TE l (ZY p t)
  have h2:=Pe p t
  simp only [List.foldl_cons,List.length_cons];omega
theorem Vr (l:List Tm):(XC l).length≤l.length:=by have:=TE l [];simpa [XC] using this
theorem S9:∀ (l p:List Tm) (x:Tm),x∈l.foldl ZY p→(∃ y∈p,y.2=x.2)∨∃ y∈l,y.2=x.2
 |[],p,x,h=>.inl ⟨x,h,rfl⟩
 |t::l,p,x,h=>by
  rw [List.foldl_cons] at h
  rcases S9 l _ x h with ⟨y,hy,e⟩ | ⟨y,hy,e⟩
  ·rcases B5 hy with h2 | h2
   ·exact .inl ⟨y,h2,e⟩
   ·exact .inr ⟨t,by simp,by rw [← h2];exact e⟩
  ·exact .inr ⟨y,by simp [hy],e⟩
theorem B6 {l:List Tm} {x:Tm} (h:x∈XC l):∃ y∈l,y.2=x.2:=by
 rcases S9 l [] x h with ⟨y,hy,_⟩ | h
 ·cases hy
 ·exact h
theorem WO {p:List Tm} (h:Canon p) {t:Tm} (ht:t∈p):Ig.Jl p t.2=t.1:=by
 induction p with
 |nil=>cases ht
 |cons x p ih =>
  rcases List.mem_cons.1 ht with rfl | ht
  ·exact h.head
  ·have hb:=(List.pairwise_cons.1 h.jD).1 t ht
   have hne:x.2≠t.2:=IM hb
   simp only [Ig.Jl]
   rw [if_neg hne,Rat.zero_add];exact ih h.tail ht
theorem Bt {l:List Tm} {t:Tm} (h:t∈XC l):JL t.1≤Zb l+1:=by
 rw [← WO (YY l) h,WK];exact Hx l t.2
theorem Bu {l:List Tm} {k:Nat} (h:∀ t∈l,JL t.1≤k):Zb l≤l.length*(k+1):=by
 induction l with
 |nil=>simp [Zb]
 |cons x l ih =>
  have e:Zb (x::l)=JL x.1+1+Zb l:=by unfold Zb;rw [List.map_cons,List.sum_cons]
  have h1:=ih fun t ht=>h t (by simp [ht])
  have h2:=h x (by simp)
  rw [e,List.length_cons,Nat.add_mul];omega
theorem Nw {a b:List Int} (h:VC a b<0):before a b=true:=by rw [WL];exact decide_eq_true h
theorem Vp {α:Type} [Inhabited α] {R:α→α→Prop} (ht:∀ a b c,R a b→R b c→R a c):∀ (l:List α),(∀ i,0<i→i<l.length→R (el l (i - 1)) (el l i))→l.Pairwise R
 |[],_=>List.Pairwise.nil
 |x::l,h=>by
  have ih:=Vp ht l fun i h0 hi=>by
   have:=h (i+1) (by omega) (by simp;omega)
   have e1:el (x::l) (i+1)=el l i:=rfl
   have e2:el (x::l) (i+1 - 1)=el l (i - 1):=by
    obtain ⟨j,rfl⟩:∃ j,i=j+1:=⟨i - 1,by omega⟩
    rfl
   rw [e1,e2] at this;exact this
  refine List.pairwise_cons.2 ⟨?_,ih⟩
  cases l with
  |nil=>intro y hy;cases hy
  |cons z l =>
   have hz:R x z:=h 1 (by omega) (by simp)
   intro y hy
   rcases List.mem_cons.1 hy with rfl | hy
   ·exact hz
   ·exact ht _ _ _ hz ((List.pairwise_cons.1 ih).1 y hy)
structure Yk (p:Pt) (v:Int):Prop where
 len:p.length≤64
 term:∀ x∈p,VS x.1 x.2 v=0
 can:Canon (JG p)
theorem Vk {p:Pt} {v:Int} (h:Xs p v=0):Yk p v:=by
 unfold Xs at h
 split at h
 ·omega
 ·rename_i hl
  have hl':p.length≤64:=by rw [decide_eq_true_eq] at hl;omega
  have hz:∀ i,i<p.length→WV p v i=0:=by
   have key:∀ (l:List Int),Qm l=0→∀ x∈l,x=0:=by
    intro l
    induction l with
    |nil=>intro _ x hx;cases hx
    |cons a l ih =>
     intro h x hx
     unfold Qm at h
     by_cases g:a=0
     ·rw [if_pos g] at h
      rcases List.mem_cons.1 hx with rfl | hx
      ·exact g
      ·exact ih h x hx
     ·rw [if_neg g] at h;exact absurd h g
   intro i hi
   exact key _ h _ (List.mem_map.2 ⟨i,by simpa using hi,rfl⟩)
  have hs:=fun i hi=>PB (hz i hi)
  have hel:∀ x∈p,∃ i,i<p.length∧el p i=x:=fun x hx=>by
   obtain ⟨i,hi,e⟩:=List.getElem_of_mem hx
   exact⟨i,hi,by rw [Za hi];exact e⟩
  refine⟨hl',fun x hx=>?_,⟨?_,fun t ht=>?_⟩⟩
  ·obtain ⟨i,hi,rfl⟩:=hel x hx;exact(hs i hi).1
  ·unfold JG
   rw [List.pairwise_map]
   refine Vp (R:=fun a b:List UInt8×List Int=>before a.2 b.2=true) (fun a b c h k=>before_trans h k) p fun i h0 hi=>?_
   exact Nw ((hs i hi).2.2 h0)
  ·unfold JG at ht
   obtain ⟨x,hx,rfl⟩:=List.mem_map.1 ht
   obtain ⟨i,hi,rfl⟩:=hel x hx
   have h1:=(Ky (hs i hi).1).2.2.2
   have h2:=(hs i hi).2.1
   intro e
   have h3:=(Zj h1).1
   have e':Ju (el p i).1=0:=e
   rw [e'] at h3
   exact h2 (h3.trans PI)
theorem Yk.sz {p:Pt} {v:Int} (h:Yk p v):∀ t∈JG p,JL t.1≤2400:=fun t ht=>by
 unfold JG at ht
 obtain ⟨x,hx,rfl⟩:=List.mem_map.1 ht
 exact XH (Ky (h.term x hx)).2.2.2
theorem Yk.Zb {p:Pt} {v:Int} (h:Yk p v):YtknegjaeoffnbaaGreatDoor.Zb (JG p)≤160000:=by
 have h1:=Bu h.sz
 have h2:(JG p).length≤64:=by unfold JG;rw [List.length_map];exact h.len
 have:=Nat.mul_le_mul_right 2401 h2
 omega
theorem Yk.pw {p:Pt} {v:Int} (h:Yk p v) (hv:v≤24):∀ t∈JG p,PW t.2:=fun t ht=>by
 unfold JG at ht
 obtain ⟨x,hx,rfl⟩:=List.mem_map.1 ht
 exact V7 (h.term x hx) hv
end
section
open Go.RowKit Ig
def gC (ls:List Ku) (v:Int) (l:List Tm):Int:=if Vv ls v=0 then Bz l else Vv ls v
def gB (ls:List Ku) (v:Int) (l:List Tm):Pt:=if Vv ls v=0 then Nl l else []
theorem Eg {ls:List Ku} {v:Int} (h:Vv ls v=0):(0≤v∧v≤24)∧∀ e∈ls,Yk (XB e.2) v:=by
 unfold Vv at h
 split at h
 ·rename_i g
  refine⟨(Ks v).1 g,fun e he=>Vk ?_⟩
  have key:∀ (l:List Int),Qm l=0→∀ x∈l,x=0:=by
   intro l
   induction l with
   |nil=>intro _ x hx;cases hx
   |cons a l ih =>
    intro h x hx
    unfold Qm at h
    by_cases g:a=0
    ·rw [if_pos g] at h
     rcases List.mem_cons.1 hx with rfl | hx
     ·exact g
     ·exact ih h x hx
    ·rw [if_neg g] at h;exact absurd h g
  exact key _ h _ (List.mem_map.2 ⟨e,he,rfl⟩)
 ·rename_i g;exact absurd h g
theorem VT {w:World} {F:Gs} {a:Ku} {v:Int} (hF:Fits F w) (hGl:JB F) (hR:Q9 F a.1.q a.1.n 2 (a.2.flatMap WQ)) (hP:Yc F a.2) (ht:VN a) (ho:Yk (XB a.2) v) (hv:0≤v∧v≤24) :
  QS Tryz.prog 130 [a.1.v] w F (fun(c:Wd)=>c.1.v) (fun c F=>Jm F c.1 c.2 (JG (XB a.2))):=by
 have hs:=ho.Zb
 have h:=Cd hF hGl (r:=a.1) (ps:=a.2) hR hP ht.1 (by have:=ho.len;simp [XB] at this;omega) (fun t htm=>?_) (by rw [SP];omega)
 ·rw [SP,Wu ho.can] at h;exact h
 ·have h1:=ho.term (t.f,t.k) (List.mem_map.2 ⟨t,htm,rfl⟩)
  exact⟨(Ky h1).2.2.2,(ht.2.1 t htm).1,V7 h1 hv.2⟩
theorem Jm.len {F:Gs} {s:Sr} {ts:List XO} {p:List Tm} (h:Jm F s ts p):ts.length=p.length:=by rw [← h.2.2.1];simp [JF]
theorem XD {ts:List XO} {p:List Tm} {Q:Tm→Prop} (h:JF ts=p) (hq:∀ t∈p,Q t):∀ t∈ts,Q t.t:=fun t ht=>hq _ (h ▸ List.mem_map_of_mem ht)
theorem Mi {l:List Tm} (hp:∀ t∈l,PW t.2):∀ t∈XC l,PW t.2:=fun t ht=>by
 obtain ⟨y,hy,e⟩:=B6 ht
 rw [← e];exact hp y hy
end
section
open Go.RowKit Ig
def vi (c:List UInt8) (p:Pt) (v:Int) (l:List Tm):Int:=if Qm [Zg v,Jy c]=0 then(if Xs p v=0 then Bz l else Xs p v) else Qm [Zg v,Jy c]
def vg (c:List UInt8) (p:Pt) (v:Int) (l:List Tm):Pt:=if Qm [Zg v,Jy c]=0 then(if Xs p v=0 then Nl l else []) else []
theorem Mn {a:Rat} {l:List Tm} {t:Tm} (h:t∈V1 a l):∃ y∈l,t=(y.1*a,y.2):=by
 unfold V1 at h
 split at h
 ·cases h
 ·obtain ⟨y,hy,e⟩:=List.mem_map.1 h;exact⟨y,hy,e.symm⟩
theorem Up (a:Rat) (l:List Tm):(V1 a l).length≤l.length:=by
 unfold V1;split<;>simp
def PO (p:Pt) (n:Nat):Int:=if Qm [if decide ((n:Int)=0)=true then 2 else 0,if decide ((n:Int)>25)=true then 5 else 0]=0 then Xs p ((n:Int) - 1) else Qm [if decide ((n:Int)=0)=true then 2 else 0,if decide ((n:Int)>25)=true then 5 else 0]
theorem Am {n:Nat} (h:Qm [if decide ((n:Int)=0)=true then 2 else 0,if decide ((n:Int)>25)=true then 5 else 0]=0):1≤n∧n≤25:=by
 obtain ⟨h1,h2⟩:=K8 h
 simp only [decide_eq_true_eq] at h1 h2
 constructor
 ·split at h1<;>omega
 ·split at h2<;>omega
theorem jE {w:World} {F:Gs} {a:Ku} {c:List UInt8} {v:Int} (hF:Fits F w) (hGl:JB F) (hR:Q9 F a.1.q a.1.n 2 (a.2.flatMap WQ)) (hA:Yc F a.2) (ht:VN a) (hcl:c.length≤1000000) :
  QS Tryz.prog 76 [tx c,a.1.v,.int .i64 v] w F (fun(r:Ku)=>.tuple #[r.1.v,.int .i64 (vi c (XB a.2) v (V1 (Ju c) (JG (XB a.2))))]) (fun r F=>VK F r.1 r.2 (vg c (XB a.2) v (V1 (Ju c) (JG (XB a.2))))):=by
 dsimp only [Sr.v]
 refine QS.intro (G:=fun F=>JB F∧Q9 F a.1.q a.1.n 2 (a.2.flatMap WQ)∧Yc F a.2) Tryz.func76 rfl (by rfl) rfl rfl hF (fun F' hF'=>⟨hGl.le hF',hR.le hF',hA.le hF'⟩)<|J_sr<|JS_as rfl<|JS_as rfl<|JS_nt<|QG<|J_sr<|JS_mv rfl<|QI rfl (fun w F hF ⟨hGl,hR,hA⟩=>GR hF ) (fun _=>JS_mv rfl<|QI rfl (fun w F hF ⟨⟨hGl,hR,hA⟩,_⟩=>Ef hF hGl (hcl)) (fun _=>QU rfl (Q6 ZX) Yp Ho rfl rfl (fun b14=>QI rfl (fun w F hF ⟨⟨⟨⟨hGl,hR,hA⟩,_⟩,_⟩,hs14⟩=>Zm hF (Q9.of (cs:=List.map Qx [Zg v,Jy c]) hs14 rfl) (by decide)) (fun _=>JS_as rfl<|JS_nt<|J_sr<|JS_mv rfl<|QA (QV rfl rfl rfl)<|QE<|QC ?_))))
 refine QR rfl (fun hc=>?_) (fun hc=>?_)
 ·
  have hc0:=bne_iff_ne.1 hc
  refine J_sr<|JS_mv rfl<|JS_as rfl<|JS_as rfl<|JS_nt<|QT ?_
  exact JY ((⟨none,0,0⟩,[])) rfl (.tmp rfl (.tmp rfl .nil)) (by unfold vi;rw [if_neg hc0]) (fun F ⟨⟨⟨⟨⟨hGl,hR,hA⟩,_⟩,_⟩,hs14⟩,_⟩=>by unfold vg;rw [if_neg hc0];exact VK.nil F)
 ·
  have hc0:=bne_eq_false_iff_eq.1 hc
  obtain ⟨hc1,hc2⟩:=K8 hc0
  have hv:=(Ks v).1 hc1
  refine QP<|QC<|QG<|J_sr<|JS_mv rfl<|JS_mv rfl<|QI rfl (fun w F hF ⟨⟨⟨⟨⟨hGl,hR,hA⟩,_⟩,_⟩,hs14⟩,_⟩=>BU hF (hGl) (hR) (hA) (ht.1) (ht.2.1) (ht.2.2) (hv)) (fun _=>JS_as rfl<|JS_nt<|J_sr<|JS_mv rfl<|QA (QV rfl rfl rfl)<|QE<|QC ?_)
  refine QR rfl (fun hc=>?_) (fun hc=>?_)
  ·
   have ht0:=bne_iff_ne.1 hc
   refine J_sr<|JS_mv rfl<|JS_as rfl<|JS_as rfl<|JS_nt<|QT ?_
   exact JY ((⟨none,0,0⟩,[])) rfl (.tmp rfl (.tmp rfl .nil)) (by unfold vi;rw [if_pos hc0,if_neg ht0]) (fun F ⟨⟨⟨⟨⟨⟨hGl,hR,hA⟩,_⟩,_⟩,hs14⟩,_⟩,_⟩=>by unfold vg;rw [if_pos hc0,if_neg ht0];exact VK.nil F)
  ·
   have ht0:=bne_eq_false_iff_eq.1 hc
   have oa:=Vk ht0
   have sa:=oa.Zb
   have hpa:∀ t∈JG (XB a.2),PW t.2:=oa.pw hv.2
   have la:(JG (XB a.2)).length≤64:=by unfold JG;rw [List.length_map];exact oa.len
   have hzc:=XH hc2
   have hll:=Up (Ju c) (JG (XB a.2))
   refine QP<|QC<|J_sr<|JS_mv rfl<|QI rfl (fun w F hF ⟨⟨⟨⟨⟨⟨hGl,hR,hA⟩,_⟩,_⟩,hs14⟩,_⟩,_⟩=>VT hF hGl (a:=a) hR hA ht oa hv) (fun c26=>JK _ (fun w F hF h=>And.intro h.2.2.2.1 h.2.len) (fun h26p=>?_))
   obtain ⟨e26,l26⟩:=h26p
   refine JS_mv rfl<|QI rfl (fun w F hF ⟨⟨⟨⟨⟨⟨⟨hGl,hR,hA⟩,_⟩,_⟩,hs14⟩,_⟩,_⟩,h26⟩=>He hF hGl (Zj hc2).1 (by omega)) (fun x28=>QI rfl (fun w F hF ⟨⟨⟨⟨⟨⟨⟨⟨hGl,hR,hA⟩,_⟩,_⟩,hs14⟩,_⟩,_⟩,h26⟩,⟨h28,h28_⟩⟩=>Lh hF (p:=c26) (x:=x28) (by rw [e26];exact h26) ⟨h28,h28_⟩ (by omega) (by omega) (by rw [e26];omega)) (fun c29=>JK _ (fun w F hF h=>And.intro h.2.2.2.1 h.2.len) (fun h29p=>?_)))
   obtain ⟨e29,l29⟩:=h29p
   rw [e26] at e29 l29
   refine QI rfl (fun w F hF ⟨⟨⟨⟨⟨⟨⟨⟨⟨hGl,hR,hA⟩,_⟩,_⟩,hs14⟩,_⟩,_⟩,h26⟩,⟨h28,h28_⟩⟩,h29⟩=>Wo hF (q:=c29.1.q) (n:=c29.1.n) (cap:=c29.1.cap) (ts:=c29.2) (by rw [e29];rw [e26] at h29;exact h29) hGl (XD (Q:=fun t=>PW t.2) e29 (fun t ht=>by obtain ⟨y,hy,e⟩:=Mn ht;rw [e];exact hpa y hy)) (XD (Q:=fun t=>JL t.1≤100000000) e29 (fun t ht=>by obtain ⟨y,hy,e⟩:=Mn ht;rw [e];have h1:=XA y.1 (Ju c);have h2:=oa.sz y hy;dsimp only;omega)) (by omega)) (fun c30=>?_)
   rw [e29]
   refine QA (QM rfl rfl)<|QA (QM rfl rfl)<|JS_as rfl<|JS_as rfl<|JS_nt<|QT ?_
   exact JY (c30) rfl (.tmp rfl (.tmp rfl .nil)) (by unfold vi;rw [if_pos hc0,if_pos ht0];rfl) (fun F ⟨⟨⟨⟨⟨⟨⟨⟨⟨⟨hGl,hR,hA⟩,_⟩,_⟩,hs14⟩,_⟩,_⟩,h26⟩,⟨h28,h28_⟩⟩,h29⟩,h30⟩=>by unfold vg;rw [if_pos hc0,if_pos ht0];exact h30)
theorem Lo {w:World} {F:Gs} {a:Ku} {n:Nat} (hF:Fits F w) (hGl:JB F) (hR:Q9 F a.1.q a.1.n 2 (a.2.flatMap WQ)) (hA:Yc F a.2) (ht:VN a) (hn:n≤1000000) :
  QZ Tryz.prog 185 [a.1.v,.int .i64 (n:Nat)] w F (.int .i64 (PO (XB a.2) n)):=by
 dsimp only [Sr.v]
 refine QS.intro (G:=fun F=>JB F∧Q9 F a.1.q a.1.n 2 (a.2.flatMap WQ)∧Yc F a.2) Tryz.func185 rfl (by rfl) rfl rfl hF (fun F' hF'=>⟨hGl.le hF',hR.le hF',hA.le hF'⟩)<|J_sr<|JS_as rfl<|JS_nt<|QG<|J_sr<|JS_mv rfl<|QA (QV rfl rfl rfl)<|QI rfl (fun w F hF ⟨hGl,hR,hA⟩=>Zn hF ) (fun _=>JS_mv rfl<|QA (QV rfl rfl rfl)<|QI rfl (fun w F hF ⟨⟨hGl,hR,hA⟩,_⟩=>Zn hF ) (fun _=>QU rfl (Q6 ZX) Yp Ho rfl rfl (fun b12=>QI rfl (fun w F hF ⟨⟨⟨⟨hGl,hR,hA⟩,_⟩,_⟩,hs12⟩=>Zm hF (Q9.of (cs:=List.map Qx [if decide ((n:Int)=0)=true then 2 else 0,if decide ((n:Int)>25)=true then 5 else 0]) hs12 rfl) (by decide)) (fun _=>JS_as rfl<|JS_nt<|J_sr<|JS_mv rfl<|QA (QV rfl rfl rfl)<|QE ?_))))
 refine QC ?_
 refine QR rfl (fun hc=>?_) (fun hc=>?_)
 ·
  have hc0:=bne_iff_ne.1 hc
  refine J_sr<|JS_mv rfl<|JS_as rfl<|JS_nt<|QT ?_
  exact QQ (()) rfl (.tmp rfl .nil) (congrArg (Value.int .i64) (by unfold PO;rw [if_neg hc0])) (fun F ⟨⟨⟨⟨⟨hGl,hR,hA⟩,_⟩,_⟩,hs12⟩,_⟩=>trivial)
 ·
  have hc0:=bne_eq_false_iff_eq.1 hc
  have hv:=Am hc0
  refine QP<|QC<|J_sr<|JS_mv rfl<|JS_mv rfl<|QA (J6 rfl rfl (by omega))<|QI rfl (fun w F hF ⟨⟨⟨⟨⟨hGl,hR,hA⟩,_⟩,_⟩,hs12⟩,_⟩=>BU hF (hGl) (hR) (hA) (ht.1) (ht.2.1) (ht.2.2) (by omega)) (fun _=>JS_as rfl<|JS_nt<|QT ?_)
  exact QQ (()) rfl (.tmp rfl .nil) (congrArg (Value.int .i64) (by unfold PO;rw [if_pos hc0])) (fun F ⟨⟨⟨⟨⟨⟨hGl,hR,hA⟩,_⟩,_⟩,hs12⟩,_⟩,_⟩=>trivial)
end
section
open Go.RowKit Ig
def AD (v:Nat) (t:Tm):List Tm:=if 0<Qg t.2 v then [(t.1*((Qg t.2 v:Int):Rat),t.2.set v (Qg t.2 v - 1))] else []
def KS (v:Nat) (l:List Tm):List Tm:=l.flatMap (AD v)
structure dn (v:Nat) (ps:List XO) where
 i:Nat
 ts:List XO
 le:i≤ps.length
 hI:Ko ts (KS v (JF (ps.take i)))
theorem Pq {v:Nat} {ps:List XO} {i:Nat} (h:i<ps.length):KS v (JF (ps.take (i+1)))=KS v (JF (ps.take i))++AD v (el ps i).t:=by
 rw [Xk h];unfold KS;rw [List.flatMap_append];simp
theorem qR (v:Nat) (ps:List XO) (i:Nat):Zb (KS v (JF (ps.take i)))≤Zb (KS v (JF ps)):=by
 have e:JF ps=JF (ps.take i)++JF (ps.drop i):=by unfold JF;rw [← List.map_append,List.take_append_drop]
 have h:Zb (KS v (JF ps))=Zb (KS v (JF (ps.take i)++JF (ps.drop i))):=by rw [← e]
 unfold KS at h ⊢
 rw [List.flatMap_append,Xb] at h;omega
theorem PW.set {l:List Int} (h:PW l) {v:Nat} (hk:0<Qg l v):PW (l.set v (Qg l v - 1)):=by
 refine⟨fun x hx=>?_,by rw [List.length_set];exact h.2⟩
 rcases List.mem_or_eq_of_mem_set hx with hx | rfl
 ·exact h.1 x hx
 ·by_cases hv:v<l.length
  ·have:=h.el hv;omega
  ·have:Qg l v=0:=by simp [Qg,List.getD];intro h;exact absurd h hv
   omega
theorem P7 {x:Int} (h:0≤x∧x≤1000000):sz x≤64:=Nat.le_trans (Y9 (b:=1000000) (by omega)) (by decide)
theorem NC (v:Nat) (l:List Tm):(KS v l).length≤l.length:=by
 unfold KS
 induction l with
 |nil=>simp
 |cons t l ih =>
  rw [List.flatMap_cons,List.length_append,List.length_cons]
  have:(AD v t).length≤1:=by unfold AD;split<;>simp
  omega
theorem Ls {w:World} {F:Gs} {p:Wd} {v:Nat} (hF:Fits F w) (hGl:JB F) (hP:Jm F p.1 p.2 (JF p.2)) (hp:∀ t∈p.2,PW t.t.2∧v<t.t.2.length) (hl:p.2.length≤100000) (hzt:∀ t∈p.2,JL t.t.1≤20000000) (hz:Zb (KS v (JF p.2))≤40000000) :
  QS Tryz.prog 138 [p.1.v,.int .i64 (v:Nat)] w F (fun(c:Wd)=>c.1.v) (fun c F=>Jm F c.1 c.2 (XC (KS v (JF p.2)))):=by
 have hpn:=hP.2.2.2.2
 dsimp only [Sr.v]
 refine QS.intro (G:=fun F=>JB F∧Jm F p.1 p.2 (JF p.2)) Tryz.func138 rfl (by rfl) rfl rfl hF (fun F' hF'=>⟨hGl.le hF',hP.le hF'⟩)<|J_sr<|JS_as rfl<|JS_nt<|QG<|QB ?_
 refine VH tx (fun m=>?_)
 refine JS_as rfl<|JS_nt<|QG<|J_sr<|JS_mv rfl<|QA (Ql rfl J1)<|JS_mv rfl<|JS_nt<|Qa ?_
 refine Jz (ι:=dn v p.2) [(1,_),(5,_),(11,_),(12,_)] (fun i=>[(13,.int .i64 ((i.i:Nat):Int))]) (fun i=>[(m,X3 tx (WX i.ts))]) (fun i F=>VO F i.ts) (fun i=>p.2.length - i.i) (⟨0,[],Nat.zero_le _,Ko.nil⟩) ⟨rfl,rfl,rfl,rfl,trivial⟩ ⟨rfl,trivial⟩ subl_r (fun _ _ _ h=>by cases h) (fun i=>?_)
 simp only [List.cons_append,List.nil_append]
 have hi:=i.le
 refine J_sr<|QA (QV rfl rfl rfl)<|JS_nt<|QG ?_
 refine QR rfl (fun hc=>?_) (fun hc=>?_)
 ·
  have hlt:i.i<p.2.length:=by have:=dec_t hc;omega
  have htm:=Jc hlt
  have hp1:=hp _ htm
  have hra:=(hP.2.1 _ htm).2.2.1
  have hdl:=qR v p.2 i.i
  have hzz:=hzt _ htm
  have hb1:=hp1.1.el hp1.2
  have hl2:=hp1.1.2
  refine QP<|QC<|QG<|Qa<|J_sr<|QA (Ja (n:=p.1.n) (i.i) (fun F ⟨⟨hGl,hP⟩,hT⟩=>(hP).1) rfl rfl J1 Jd (by omega))<|QA (X2 (n:=p.1.n) (vs:=[.int .i64 (el p.2 (i.i)).x.n.s,.slice (el p.2 (i.i)).x.n.q (el p.2 (i.i)).x.n.n (el p.2 (i.i)).x.n.cap,.int .i64 (el p.2 (i.i)).x.d.s,.slice (el p.2 (i.i)).x.d.q (el p.2 (i.i)).x.d.n (el p.2 (i.i)).x.d.cap,.slice (el p.2 (i.i)).r.q (el p.2 (i.i)).r.n (el p.2 (i.i)).r.cap]) ((i.i)*5) (fun F ⟨⟨hGl,hP⟩,hT⟩=>(hP).1) (by omega) rfl Jd rfl (fun j v hv=>XM (f:=Ya) (l:=p.2) YH (by omega) hv)) ?_
  refine Qb ZW (fun b7=>?_)
  refine QN (vs:=[_,_,_,_,_]) rfl rfl rfl Jd rfl .here (.here (.here (.here (.here (.here .nil))))) ⟨rfl,rfl,rfl,rfl,rfl,trivial⟩<|JS_nt<|J_sr<|QA (QH rfl X4 Qz)<|QA (Qj rfl Qz .here (.skip (.skip (.skip (.skip (.here .nil))))))<|JS_mv rfl<|QA (Ja (n:=(el p.2 i.i).r.n) (v) (fun F ⟨⟨hGl,hP⟩,hT⟩=>((hP.2.1 _ htm).2).1) rfl rfl Qf Qp (by omega))<|QA (Jk (n:=(el p.2 i.i).r.n) ((v)*1) (fun F ⟨⟨hGl,hP⟩,hT⟩=>((hP.2.1 _ htm).2).1) (by omega) rfl Qp (JO (o:=(el p.2 i.i).t.2) (by omega)))<|JS_as rfl<|JS_nt<|J_sr<|JS_mv rfl<|QA (QV rfl rfl rfl)<|QE<|QC ?_
  refine QR rfl (fun hc=>?_) (fun hc=>?_)
  ·
   have hkp:=dec_t hc
   refine J_sr<|QA (QH rfl X4 Qz)<|QA (Qj rfl Qz .here (.skip (.skip (.skip (.skip (.here .nil)))))) ?_
   refine XJ rfl (List.Perm.refl _) (Ry (r:=(el p.2 i.i).r) (l:=(el p.2 i.i).t.2) (fun F ⟨⟨hGl,hP⟩,hT⟩=>(hP.2.1 _ htm).2) hra (by omega)) (fun c26=>?_)
   refine JK _ (fun w F hF h=>h.2) (fun h26=>?_)
   obtain ⟨v26,ob26⟩:=c26
   dsimp only at h26 ⊢
   obtain ⟨bb,cap,rest,rfl,rfl,e1,e2,e3,e4⟩:=Q3.pos h26 (by omega)
   refine JS_as rfl<|JS_nt<|J_sr<|JS_mv rfl<|JS_mv rfl<|QA (Qv (i:=v) rfl rfl Qf Qp (by omega))<|QA (YG (c:=((el p.2 i.i).t.2).map Qx++rest) (T':=3) rfl Qp (.there (.there .here)) (Ze (by first | omega | (simp only [List.length_set];omega))))<|QA (J6 rfl rfl (by omega))<|QA (Qv (i:=v) rfl rfl Qf Qp (by omega))<|QN (vs:=[_]) rfl rfl rfl Qp rfl (.there (.there .here)) (K4 (by first | omega | (simp only [List.length_set];omega)) ((Qg ((el p.2 i.i).t.2) (v) - 1))) ⟨rfl,trivial⟩<|QE<|QC ?_
   obtain ⟨r,hv,hrn,hrc,hfix⟩:=Q3.fix (w0:=w) (F0:=F) (bs1:=[(b7,.cells (Ya (el p.2 i.i)).toArray 165 (0,0)),(m,X3 tx (WX i.ts))]) (G:=_) (Q3.some (T:=3) (sz:=1) (b:=bb) (n:=(el p.2 i.i).r.n) (cap:=cap) (l:=((el p.2 i.i).t.2.set v (Qg (el p.2 i.i).t.2 v - 1)).map Qx) (rest:=rest) (by simpa using e1) (by simpa using e2) e3 e4)
   refine T9 hfix ?_
   rw [hv]
   refine JN (.cons_cons _ (.cons _ .slnil)) mixed (by kernel_rfl)<|QK (QD rfl)<|QK (QH rfl Z0 Qc)<|QK (QJ (vs:=[_,_,_,_]) rfl Qc .here (.here (.here (.here (.here .nil)))) rfl)<|QK (QD rfl) ?_
   refine QY rfl (fun w F hF ⟨⟨⟨⟨hGl,hP⟩,hT⟩,_⟩,hrow⟩=>gG hF (by omega) (by omega)) (fun x37=>?_)
   refine QY rfl (fun w F hF ⟨⟨⟨⟨⟨hGl,hP⟩,hT⟩,_⟩,hrow⟩,⟨h37,h37_⟩⟩=>KR hF ((hP.2.1 _ htm).1) ⟨by assumption,by assumption⟩ (by omega) (by have h2:=DU (Qg (el p.2 i.i).t.2 v);have h3:sz (Qg (el p.2 i.i).t.2 v)≤64:=P7 hb1;omega)) (fun x38=>?_)
   refine QK (QD rfl) ?_
   refine T0 rfl (List.Perm.swap _ _ _) (H2 (r:=r) (x:=x38) i.hI (hp1.1.set hkp) (by have h1:=XA (el p.2 i.i).t.1 ((Qg (el p.2 i.i).t.2 v:Int):Rat);have h2:=DU (Qg (el p.2 i.i).t.2 v);have h3:sz (Qg (el p.2 i.i).t.2 v)≤64:=P7 hb1;omega) (by omega) (fun F ⟨⟨⟨⟨⟨⟨hGl,hP⟩,hT⟩,_⟩,hrow⟩,⟨h37,h37_⟩⟩,⟨h38,h38_⟩⟩=>⟨hGl,hT,⟨h38,h38_⟩,by rw [hrn];exact hrow,by rw [hrn,List.length_set];exact hra,by rw [hrn];exact hrc⟩)) (fun n w h=>St.imp h (.cons _ subl_r) (fun F h=>h.1.1.1)) (fun n40=>?_)
   refine E4 _ (fun w F hF h=>h.2.2) (fun h40=>?_)
   have hI2:Ko (addN i.ts n40) (KS v (JF (p.2.take (i.i+1)))):=by
    rw [Pq hlt,show AD v (el p.2 i.i).t=[((el p.2 i.i).t.1*((Qg (el p.2 i.i).t.2 v:Int):Rat),(el p.2 i.i).t.2.set v (Qg (el p.2 i.i).t.2 v - 1))] from if_pos hkp]
    exact i.hI.add (hp1.1.set hkp) h40
   refine Q4<|Qk<|QC<|QB<|QA (Qu rfl rfl (by omega))<|JS_mv rfl<|QE ?_
   exact Qo (⟨i.i+1,addN i.ts n40,hlt,hI2⟩) (by show p.2.length - (i.i+1)<p.2.length - i.i;omega) ⟨rfl,rfl,rfl,rfl,rfl,trivial⟩ (.cons_cons _ (.cons _ .slnil)) (fun F h=>⟨h.1.1.1.1.1.1,h.2.1⟩)
  ·
   have hkp:=dec_f hc
   refine QP<|Qk<|QC<|QB<|QA (Qu rfl rfl (by omega))<|JS_mv rfl<|QE ?_
   exact Qo (⟨i.i+1,i.ts,hlt,by rw [Pq hlt,show AD v (el p.2 i.i).t=[] from if_neg hkp,List.append_nil];exact i.hI⟩) (by show p.2.length - (i.i+1)<p.2.length - i.i;omega) ⟨rfl,rfl,rfl,rfl,rfl,trivial⟩ (.cons _ subl_r) (fun F h=>⟨h.1,h.2⟩)
 ·
  have hge:i.i=p.2.length:=by have:=dec_f hc;omega
  refine Q5 ?_
  repeat (first | refine Qd ?_ | refine QW (by rfl) ?_)
  refine Qe<|QC<|J_sr<|JS_mv rfl ?_
  have hI:=i.hI
  rw [hge,List.take_length] at hI
  refine XJ rfl (List.Perm.refl _) (GD hI (by have h1:=hI.ln;have h2:=NC v (JF p.2);rw [Y3] at h2;omega) (fun F h=>h.2)) (fun c43=>?_)
  refine JS_as rfl<|JS_nt<|QT ?_
  exact QQ (c43) rfl (.tmp rfl .nil) (rfl) (fun F h=>h.2)
end
section
open Go.RowKit Ig
def vE (v n:Int):Int:=if decide (v<0)=true∨decide (v>n)=true then 10 else 0
theorem gT {v n:Int} (h:decide (v<0)=true):vE v n=if true=true then 10 else 0:=by unfold vE;rw [if_pos (Or.inl h)];rfl
theorem gU {v n:Int} (h:decide (v<0)=false):vE v n=if decide (v>n)=true then 10 else 0:=by unfold vE;rw [h];simp
theorem qy {v n:Int} (h:vE v n=0):0≤v∧v≤n:=by
 unfold vE at h
 simp only [decide_eq_true_eq] at h
 split at h<;>omega
def yO (a:Ku) (n v:Int) (l:List Tm):Int:=if Qm [Vv [a] n,vE v n]=0 then Bz l else Qm [Vv [a] n,vE v n]
def yN (a:Ku) (n v:Int) (l:List Tm):Pt:=if Qm [Vv [a] n,vE v n]=0 then Nl l else []
theorem Yk.wide {p:Pt} {v:Int} (h:Yk p v):∀ t∈JG p,(t.2.length:Int)=v+1:=fun t ht=>by
 unfold JG at ht
 obtain ⟨x,hx,rfl⟩:=List.mem_map.1 ht
 exact(Ky (h.term x hx)).1
theorem Mo {v:Nat} {l:List Tm} {x:Tm} (h:x∈KS v l):∃ t∈l,0<Qg t.2 v∧x=(t.1*((Qg t.2 v:Int):Rat),t.2.set v (Qg t.2 v - 1)):=by
 unfold KS at h
 obtain ⟨t,ht,h⟩:=List.mem_flatMap.1 h
 unfold AD at h
 split at h
 ·rename_i g;rw [List.mem_singleton] at h;exact⟨t,ht,g,h⟩
 ·cases h
theorem A2 {v:Nat} {l:List Tm} (h:∀ t∈l,JL t.1≤2400∧PW t.2∧v<t.2.length):∀ x∈KS v l,JL x.1≤2500:=fun x hx=>by
 obtain ⟨t,ht,_,rfl⟩:=Mo hx
 obtain ⟨h1,h2,h3⟩:=h t ht
 have h4:=XA t.1 ((Qg t.2 v:Int):Rat)
 have h5:=DU (Qg t.2 v)
 have h6:=P7 (h2.el h3)
 dsimp only;omega
theorem Rt {w:World} {F:Gs} {a:Ku} {n v:Int} (hF:Fits F w) (hGl:JB F) (hA:YD F [a]) (ht:∀ e∈[a],VN e) :
  QS Tryz.prog 41 [a.1.v,.int .i64 n,.int .i64 v] w F (fun(c:Ku)=>.tuple #[c.1.v,.int .i64 (yO a n v (XC (KS v.toNat (JG (XB a.2)))))]) (fun c F=>VK F c.1 c.2 (yN a n v (XC (KS v.toNat (JG (XB a.2)))))):=by
 have ha:a∈[a]:=by simp
 dsimp only [Sr.v]
 refine QS.intro (G:=fun F=>JB F∧YD F [a]) Tryz.func41 rfl (by rfl) rfl rfl hF (fun F' hF'=>⟨hGl.le hF',hA.le hF'⟩)<|J_sr<|JS_as rfl<|JS_as rfl<|JS_nt<|QG<|J_sr<|JS_mv rfl<|JS_mv rfl<|QU rfl (Q6 Dc) ME j2 rfl rfl (fun b11=>QI rfl (fun w F hF ⟨⟨hGl,hA⟩,hs11⟩=>Hi hF hGl (Q9.of (n:=1) (sz:=1) (cs:=[a].map fun e=>e.1.v) hs11 rfl) (hA) (rfl) (by decide) (ht)) (fun _=>JS_mv rfl<|QA (QV rfl rfl rfl)<|JS_mv rfl ?_))
 refine Qn (t:=15) rfl (fun hb15=>?_) (fun hb15=>?_)
 ·
  have hve:=gT (n:=n) hb15
  refine QO rfl rfl rfl<|QO rfl rfl rfl<|QO rfl rfl rfl<|QA (Qi rfl rfl rfl)<|QI rfl (fun w F hF ⟨⟨⟨hGl,hA⟩,hs11⟩,_⟩=>Zn hF ) (fun _=>QU rfl (Q6 ZX) Yp Ho rfl rfl (fun b21=>QI rfl (fun w F hF ⟨⟨⟨⟨⟨hGl,hA⟩,hs11⟩,_⟩,_⟩,hs21⟩=>Zm hF (Q9.of (cs:=List.map Qx [Vv [a] n,vE v n]) (by rw [hve];exact hs21) rfl) (by decide)) (fun _=>JS_as rfl<|JS_nt<|J_sr<|JS_mv rfl<|QA (QV rfl rfl rfl)<|QE<|QC ?_)))
  refine QR rfl (fun hc=>?_) (fun hc=>?_)
  ·
   have hc0:=bne_iff_ne.1 hc
   refine J_sr<|JS_mv rfl<|JS_as rfl<|JS_as rfl<|JS_nt<|QT ?_
   exact JY ((⟨none,0,0⟩,[])) rfl (.tmp rfl (.tmp rfl .nil)) (by unfold yO;rw [if_neg hc0]) (fun F ⟨⟨⟨⟨⟨⟨hGl,hA⟩,hs11⟩,_⟩,_⟩,hs21⟩,_⟩=>by unfold yN;rw [if_neg hc0];exact VK.nil F)
  ·
   have hc0:=bne_eq_false_iff_eq.1 hc
   obtain ⟨hc1,hc2⟩:=K8 hc0
   obtain ⟨hn,hok⟩:=Eg hc1
   have hv:=qy hc2
   obtain ⟨k,rfl⟩:=Int.eq_ofNat_of_zero_le hv.1
   rw [Int.toNat_natCast]
   have oa:=hok a ha
   have sa:=oa.Zb
   have hpa:∀ t∈JG (XB a.2),PW t.2∧k<t.2.length:=fun t ht=>⟨oa.pw hn.2 t ht,by have:=oa.wide t ht;omega⟩
   have la:(JG (XB a.2)).length≤64:=by unfold JG;rw [List.length_map];exact oa.len
   have hds:=A2 (v:=k) (l:=JG (XB a.2)) fun t ht=>⟨oa.sz t ht,hpa t ht⟩
   have hdl:=NC k (JG (XB a.2))
   have hdz:=Bu hds
   have hdz2:=Nat.mul_le_mul_right 2501 (Nat.le_trans hdl la)
   have hpn:=Mi (l:=KS k (JG (XB a.2))) fun t ht=>by
    obtain ⟨y,hy,hk,e⟩:=Mo ht
    rw [e];exact(hpa y hy).1.set hk
   have hln:=Vr (KS k (JG (XB a.2)))
   refine QP<|QC<|J_sr<|JS_mv rfl<|QI rfl (fun w F hF ⟨⟨⟨⟨⟨⟨hGl,hA⟩,hs11⟩,_⟩,_⟩,hs21⟩,_⟩=>VT hF hGl (a:=a) (hA a ha).1 (hA a ha).2 (ht a ha) oa hn) (fun c27=>JK _ (fun w F hF h=>And.intro h.2.2.2.1 h.2.len) (fun h27p=>?_))
   obtain ⟨e27,l27⟩:=h27p
   refine JS_mv rfl<|QI rfl (fun w F hF ⟨⟨⟨⟨⟨⟨⟨hGl,hA⟩,hs11⟩,_⟩,_⟩,hs21⟩,_⟩,h27⟩=>Ls hF hGl (p:=c27) (v:=k) (by rw [e27];exact h27) (XD (Q:=fun t=>PW t.2∧k<t.2.length) e27 hpa) (by omega) (XD (Q:=fun t=>JL t.1≤20000000) e27 (fun t ht=>by have:=oa.sz t ht;omega)) (by rw [e27];omega)) (fun c29=>JK _ (fun w F hF h=>And.intro h.2.2.2.1 h.2.len) (fun h29p=>?_))
   obtain ⟨e29,l29⟩:=h29p
   rw [e27] at e29 l29
   refine QI rfl (fun w F hF ⟨⟨⟨⟨⟨⟨⟨⟨hGl,hA⟩,hs11⟩,_⟩,_⟩,hs21⟩,_⟩,h27⟩,h29⟩=>Wo hF (q:=c29.1.q) (n:=c29.1.n) (cap:=c29.1.cap) (ts:=c29.2) (by rw [e29];rw [e27] at h29;exact h29) hGl (XD (Q:=fun t=>PW t.2) e29 hpn) (XD (Q:=fun t=>JL t.1≤100000000) e29 (fun t ht=>Nat.le_trans (Bt ht) (by omega))) (by omega)) (fun c30=>?_)
   rw [e29]
   refine QA (QM rfl rfl)<|QA (QM rfl rfl)<|JS_as rfl<|JS_as rfl<|JS_nt<|QT ?_
   exact JY (c30) rfl (.tmp rfl (.tmp rfl .nil)) (by unfold yO;rw [if_pos hc0];rfl) (fun F ⟨⟨⟨⟨⟨⟨⟨⟨⟨hGl,hA⟩,hs11⟩,_⟩,_⟩,hs21⟩,_⟩,h27⟩,h29⟩,h30⟩=>by unfold yN;rw [if_pos hc0];exact h30)
 ·
  have hve:=gU (n:=n) hb15
  refine QL rfl rfl<|JS_mv rfl<|QL rfl rfl<|JS_mv rfl<|QL rfl rfl<|QA (QV rfl rfl rfl)<|QA (Qh rfl rfl rfl)<|QI rfl (fun w F hF ⟨⟨⟨hGl,hA⟩,hs11⟩,_⟩=>Zn hF ) (fun _=>QU rfl (Q6 ZX) Yp Ho rfl rfl (fun b21=>QI rfl (fun w F hF ⟨⟨⟨⟨⟨hGl,hA⟩,hs11⟩,_⟩,_⟩,hs21⟩=>Zm hF (Q9.of (cs:=List.map Qx [Vv [a] n,vE v n]) (by rw [hve];exact hs21) rfl) (by decide)) (fun _=>JS_as rfl<|JS_nt<|J_sr<|JS_mv rfl<|QA (QV rfl rfl rfl)<|QE<|QC ?_)))
  refine QR rfl (fun hc=>?_) (fun hc=>?_)
  ·
   have hc0:=bne_iff_ne.1 hc
   refine J_sr<|JS_mv rfl<|JS_as rfl<|JS_as rfl<|JS_nt<|QT ?_
   exact JY ((⟨none,0,0⟩,[])) rfl (.tmp rfl (.tmp rfl .nil)) (by unfold yO;rw [if_neg hc0]) (fun F ⟨⟨⟨⟨⟨⟨hGl,hA⟩,hs11⟩,_⟩,_⟩,hs21⟩,_⟩=>by unfold yN;rw [if_neg hc0];exact VK.nil F)
  ·
   have hc0:=bne_eq_false_iff_eq.1 hc
   obtain ⟨hc1,hc2⟩:=K8 hc0
   obtain ⟨hn,hok⟩:=Eg hc1
   have hv:=qy hc2
   obtain ⟨k,rfl⟩:=Int.eq_ofNat_of_zero_le hv.1
   rw [Int.toNat_natCast]
   have oa:=hok a ha
   have sa:=oa.Zb
   have hpa:∀ t∈JG (XB a.2),PW t.2∧k<t.2.length:=fun t ht=>⟨oa.pw hn.2 t ht,by have:=oa.wide t ht;omega⟩
   have la:(JG (XB a.2)).length≤64:=by unfold JG;rw [List.length_map];exact oa.len
   have hds:=A2 (v:=k) (l:=JG (XB a.2)) fun t ht=>⟨oa.sz t ht,hpa t ht⟩
   have hdl:=NC k (JG (XB a.2))
   have hdz:=Bu hds
   have hdz2:=Nat.mul_le_mul_right 2501 (Nat.le_trans hdl la)
   have hpn:=Mi (l:=KS k (JG (XB a.2))) fun t ht=>by
    obtain ⟨y,hy,hk,e⟩:=Mo ht
    rw [e];exact(hpa y hy).1.set hk
   have hln:=Vr (KS k (JG (XB a.2)))
   refine QP<|QC<|J_sr<|JS_mv rfl<|QI rfl (fun w F hF ⟨⟨⟨⟨⟨⟨hGl,hA⟩,hs11⟩,_⟩,_⟩,hs21⟩,_⟩=>VT hF hGl (a:=a) (hA a ha).1 (hA a ha).2 (ht a ha) oa hn) (fun c27=>JK _ (fun w F hF h=>And.intro h.2.2.2.1 h.2.len) (fun h27p=>?_))
   obtain ⟨e27,l27⟩:=h27p
   refine JS_mv rfl<|QI rfl (fun w F hF ⟨⟨⟨⟨⟨⟨⟨hGl,hA⟩,hs11⟩,_⟩,_⟩,hs21⟩,_⟩,h27⟩=>Ls hF hGl (p:=c27) (v:=k) (by rw [e27];exact h27) (XD (Q:=fun t=>PW t.2∧k<t.2.length) e27 hpa) (by omega) (XD (Q:=fun t=>JL t.1≤20000000) e27 (fun t ht=>by have:=oa.sz t ht;omega)) (by rw [e27];omega)) (fun c29=>JK _ (fun w F hF h=>And.intro h.2.2.2.1 h.2.len) (fun h29p=>?_))
   obtain ⟨e29,l29⟩:=h29p
   rw [e27] at e29 l29
   refine QI rfl (fun w F hF ⟨⟨⟨⟨⟨⟨⟨⟨hGl,hA⟩,hs11⟩,_⟩,_⟩,hs21⟩,_⟩,h27⟩,h29⟩=>Wo hF (q:=c29.1.q) (n:=c29.1.n) (cap:=c29.1.cap) (ts:=c29.2) (by rw [e29];rw [e27] at h29;exact h29) hGl (XD (Q:=fun t=>PW t.2) e29 hpn) (XD (Q:=fun t=>JL t.1≤100000000) e29 (fun t ht=>Nat.le_trans (Bt ht) (by omega))) (by omega)) (fun c30=>?_)
   rw [e29]
   refine QA (QM rfl rfl)<|QA (QM rfl rfl)<|JS_as rfl<|JS_as rfl<|JS_nt<|QT ?_
   exact JY (c30) rfl (.tmp rfl (.tmp rfl .nil)) (by unfold yO;rw [if_pos hc0];rfl) (fun F ⟨⟨⟨⟨⟨⟨⟨⟨⟨hGl,hA⟩,hs11⟩,_⟩,_⟩,hs21⟩,_⟩,h27⟩,h29⟩,h30⟩=>by unfold yN;rw [if_pos hc0];exact h30)
end
section
open Go.RowKit Ig
def zN (F:Gs) (xs:List (Fr×Rat)):Prop:=∀ p∈xs,JW F p.1 p.2
theorem zN.le {F F':Gs} {xs:List (Fr×Rat)} (h:zN F xs) (k:Gs.le F F'):zN F' xs:=fun p hp=>(h p hp).le k
def dH (xs:List (Fr×Rat)):List Value:=xs.flatMap fun p=>OU p.1
structure vL (ss:List (List UInt8)) where
 i:Nat
 xs:List (Fr×Rat)
 le:i≤ss.length
 hx:xs.map (·.2)=(ss.take i).map Ju
theorem vL.len {ss:List (List UInt8)} (s:vL ss):s.xs.length=s.i:=by
 have:=congrArg List.length s.hx
 have h:=s.le
 simp only [List.length_map,List.length_take] at this;omega
end
section
open Go.RowKit Ig
def pL (c:Rat) (xs:List Rat) (ks:List Int) (i:Nat):Rat:=(List.range i).foldl (fun a j=>a*(el xs j)^(Qg ks j).toNat) c
structure p6 (n:Nat) where
 i:Nat
 x:Fr
 le:i≤n
structure p8 (n:Nat) where
 j:Nat
 y:Fr
 le:j≤n
instance :Inhabited Fr:=⟨⟨⟨0,none,0,0⟩,⟨1,none,0,0⟩⟩⟩
instance :Inhabited (Fr×Rat):=⟨(default,0)⟩
end
section
open Go.RowKit Ig
theorem Ux {l:List Int} (h:Qm l=0):∀ x∈l,x=0:=by
 induction l with
 |nil=>intro x hx;cases hx
 |cons a l ih =>
  intro x hx
  unfold Qm at h
  by_cases g:a=0
  ·rw [if_pos g] at h
   rcases List.mem_cons.1 hx with rfl | hx
   ·exact g
   ·exact ih h x hx
  ·rw [if_neg g] at h;exact absurd h g
end
section
open Go.RowKit Ig
def SX (s:List UInt8×List UInt8):List Value:=[tx s.1,tx s.2]
def OX (ss:List (List UInt8×List UInt8)):List Rat:=ss.flatMap fun s=>[Ju s.1,Ju s.2]
theorem N3 {B:Nat}:∀ (l:List Rat) (s:Rat×Rat),JL s.1≤B→JL s.2≤B→(∀ x∈l,JL x≤B)→JL (l.foldl YO s).1≤B∧JL (l.foldl YO s).2≤B
 |[],s,h1,h2,_=>⟨h1,h2⟩
 |x::l,s,h1,h2,h=>by
  have hx:=h x (by simp)
  exact N3 l (YO s x) (by unfold YO;dsimp only;split<;>assumption) (by unfold YO;dsimp only;split<;>assumption) fun y hy=>h y (by simp [hy])
structure vJ (ss:List (List UInt8×List UInt8)) where
 i:Nat
 v:Value
 ob:List (Nat×Obj)
 xs:List (Fr×Rat)
 le:i≤ss.length
 hr:Q3 130 4 v (i*2) (dH xs) ob
 hx:xs.map (·.2)=OX (ss.take i)
theorem F5 (ss:List (List UInt8×List UInt8)):(OX ss).length=ss.length*2:=by
 unfold OX
 induction ss with
 |nil=>rfl
 |cons s l ih=>rw [List.flatMap_cons,List.length_append,ih];simp only [List.length_cons,List.length_nil];omega
theorem vJ.len {ss:List (List UInt8×List UInt8)} (s:vJ ss):s.xs.length=s.i*2:=by
 have:=congrArg List.length s.hx
 have h:=s.le
 rw [F5] at this
 simp only [List.length_map,List.length_take] at this;omega
end
section
open Go.RowKit Ig
structure zI (a b:List Int) where
 i:Nat
 le:i≤a.length
 h:a.take i=b.take i
structure vV (a b:List Int) where
 i:Nat
 le:i≤a.length
 h:Zi a b=Zi (a.drop i) (b.drop i)
theorem zI.next {a b:List Int} (s:zI a b) (h1:s.i<a.length) (h2:s.i<b.length) (e:Qg a s.i=Qg b s.i):a.take (s.i+1)=b.take (s.i+1):=by
 rw [ZD h1,ZD h2,s.h,← Xp h1,← Xp h2,e]
theorem vV.step {a b:List Int} (s:vV a b) (h1:s.i<a.length) (h2:s.i<b.length):Zi a b=(decide (Qg b s.i<Qg a s.i)||(decide (Qg a s.i=Qg b s.i)&&Zi (a.drop (s.i+1)) (b.drop (s.i+1)))):=by
 rw [s.h,J4 h1,J4 h2];rfl
theorem Sj {w:World} {F:Gs} {q q2:Option Addr} {n c n2 c2:Nat} {a b:List Int} (hF:Fits F w) (hA:JP F ⟨q,n,c⟩ a) (hB:JP F ⟨q2,n2,c2⟩ b) (la:a.length≤1000000):QZ Tryz.prog 140 [.slice q n c,.slice q2 n2 c2] w F (.bool (decide (a=b))):=by
 have na:=hA.2.1
 have nb:=hB.2.1
 dsimp only at na nb
 refine QS.intro (G:=fun F=>JP F ⟨q,n,c⟩ a∧JP F ⟨q2,n2,c2⟩ b) Tryz.func140 rfl (by rfl) rfl rfl hF (fun F' hF'=>⟨hA.le hF',hB.le hF'⟩)<|J_sr<|JS_as rfl<|JS_nt<|QG<|J_sr<|JS_mv rfl<|QA (Ql rfl Qf)<|JS_mv rfl<|QA (Ql rfl Qf)<|QA (QV rfl rfl rfl)<|QE<|QC ?_
 refine QR rfl (fun hc=>?_) (fun hc=>?_)
 ·
  have hne:=bne_iff_ne.1 hc
  refine J_sr<|JS_as rfl<|JS_nt<|QT ?_
  exact QQ (()) rfl (.tmp rfl .nil) (congrArg Value.bool (decide_eq_false (fun e=>hne (by rw [← na,← nb,e])))) (fun F ⟨hA,hB⟩=>trivial)
 ·
  have hne:=bne_eq_false_iff_eq.1 hc
  refine QP<|QC<|QG<|J_sr<|JS_as rfl<|JS_nt<|Qa<|Z3 (ι:=zI a b) [(0,_),(1,_)] (fun i=>[(5,.int .i64 ((i.i:Nat):Int))]) (fun i=>a.length - i.i) (⟨0,Nat.zero_le _,rfl⟩) ⟨rfl,rfl,trivial⟩ ⟨rfl,trivial⟩ (fun i=>?_)
  simp only [List.cons_append,List.nil_append]
  have hi:=i.le
  refine QG<|J_sr<|JS_mv rfl<|JS_mv rfl<|QA (Ql rfl Qf)<|QA (QV rfl rfl rfl)<|QE<|QC ?_
  refine QR rfl (fun hc=>?_) (fun hc=>?_)
  ·
   have hlt:i.i<a.length:=by have:=dec_t hc;omega
   refine QP<|QC<|QG<|Qa<|QG<|JN subl_r mixed (by kernel_rfl)<|QK (QD rfl)<|QK (QD rfl)<|QK (Ja (n:=n) (i.i) (fun F ⟨hA,hB⟩=>(hA).1) rfl rfl Qf Qp (by omega))<|QK (Jk (n:=n) ((i.i)*1) (fun F ⟨hA,hB⟩=>(hA).1) (by omega) rfl Qp (JO (o:=a) (by omega)))<|QK (QD rfl)<|QK (QD rfl)<|QK (Ja (n:=n2) (i.i) (fun F ⟨hA,hB⟩=>(hB).1) rfl rfl Qf Qp (by omega))<|QK (Jk (n:=n2) ((i.i)*1) (fun F ⟨hA,hB⟩=>(hB).1) (by omega) rfl Qp (JO (o:=b) (by omega)))<|QK (QV rfl rfl rfl)<|Q4<|QC ?_
   refine QR rfl (fun hc=>?_) (fun hc=>?_)
   ·
    have he:=bne_iff_ne.1 hc
    refine J_sr<|JS_as rfl<|JS_nt<|QT ?_
    repeat (first | refine JJ ?_ | refine JA ?_)
    exact QQ (()) rfl (.tmp rfl .nil) (congrArg Value.bool (decide_eq_false (fun e=>he (congrArg (fun z=>Qg z i.i) e)))) (fun F ⟨hA,hB⟩=>trivial)
   ·
    have he:=bne_eq_false_iff_eq.1 hc
    refine QP<|Qk<|QC<|QB<|JS_mv rfl<|QA (Qu rfl rfl (by omega))<|JS_as rfl<|QE ?_
    exact Qo (⟨i.i+1,hlt,i.next hlt (by omega) he⟩) (by show a.length - (i.i+1)<a.length - i.i;omega) ⟨rfl,rfl,rfl,trivial⟩ subl_r (fun F h=>h)
  ·
   have hge:i.i=a.length:=by have:=dec_f hc;omega
   refine Q5 ?_
   repeat (first | refine Qd ?_ | refine QW (by rfl) ?_)
   refine Qe<|QC<|J_sr<|JS_as rfl<|JS_nt<|QT ?_
   exact QQ (()) rfl (.tmp rfl .nil) (congrArg Value.bool (decide_eq_true (by have h:=i.h;rw [hge,List.take_length,List.take_of_length_le (by omega)] at h;exact h))) (fun F ⟨hA,hB⟩=>trivial)
end
section
open Go.RowKit Ig
structure zG (a b:List GA) where
 i:Nat
 le:i≤a.length
 h:(XB a).take i=(XB b).take i
theorem GU (a:List GA):(XB a).length=a.length:=by simp [XB]
theorem zG.next {a b:List GA} (s:zG a b) (h1:s.i<a.length) (h2:s.i<b.length) (e1:(el a s.i).f=(el b s.i).f) (e2:(el a s.i).k=(el b s.i).k):(XB a).take (s.i+1)=(XB b).take (s.i+1):=by
 rw [ZD (by rw [GU];exact h1),ZD (by rw [GU];exact h2),s.h,Hj h1,Hj h2,e1,e2]
theorem RF {a b:List GA} {i:Nat} (h1:i<a.length) (h2:i<b.length) (h:XB a=XB b):(el a i).f=(el b i).f∧(el a i).k=(el b i).k:=by
 have e1:=Hj h1
 have e2:=Hj h2
 rw [h,e2] at e1
 have:=Prod.mk.inj e1
 exact⟨this.1.symm,this.2.symm⟩
theorem Si {w:World} {F:Gs} {q q2:Option Addr} {n cap n2 cap2:Nat} {a b:List GA} (hF:Fits F w) (hR:Q9 F q n 2 (a.flatMap WQ)) (hP:Yc F a) (hR2:Q9 F q2 n2 2 (b.flatMap WQ)) (hP2:Yc F b) (hln:a.length=n) (hln2:b.length=n2) (hf:∀ t∈a,t.k.length≤1000000) (hl:a.length≤1000000):QZ Tryz.prog 43 [.slice q n cap,.slice q2 n2 cap2] w F (.bool (decide (XB a=XB b))):=by
 refine QS.intro (G:=fun F=>Q9 F q n 2 (a.flatMap WQ)∧Yc F a∧Q9 F q2 n2 2 (b.flatMap WQ)∧Yc F b) Tryz.func43 rfl (by rfl) rfl rfl hF (fun F' hF'=>⟨hR.le hF',hP.le hF',hR2.le hF',hP2.le hF'⟩)<|J_sr<|JS_as rfl<|JS_nt<|QG<|J_sr<|JS_mv rfl<|QA (Ql rfl Zh)<|JS_mv rfl<|QA (Ql rfl Zh)<|QA (QV rfl rfl rfl)<|QE<|QC ?_
 refine QR rfl (fun hc=>?_) (fun hc=>?_)
 ·
  have hne:=bne_iff_ne.1 hc
  refine J_sr<|JS_as rfl<|JS_nt<|QT ?_
  exact QQ (()) rfl (.tmp rfl .nil) (congrArg Value.bool (decide_eq_false (fun e=>hne (by rw [← hln,← hln2,← GU a,← GU b,e])))) (fun F ⟨hR,hP,hR2,hP2⟩=>trivial)
 ·
  have hne:=bne_eq_false_iff_eq.1 hc
  refine QP<|QC<|QG<|J_sr<|JS_as rfl<|JS_nt<|Qa<|Z3 (ι:=zG a b) [(0,_),(1,_)] (fun i=>[(5,.int .i64 ((i.i:Nat):Int))]) (fun i=>a.length - i.i) (⟨0,Nat.zero_le _,rfl⟩) ⟨rfl,rfl,trivial⟩ ⟨rfl,trivial⟩ (fun i=>?_)
  simp only [List.cons_append,List.nil_append]
  have hi:=i.le
  refine QG<|J_sr<|JS_mv rfl<|JS_mv rfl<|QA (Ql rfl Zh)<|QA (QV rfl rfl rfl)<|QE<|QC ?_
  refine QR rfl (fun hc=>?_) (fun hc=>?_)
  ·
   have hlt:i.i<a.length:=by have:=dec_t hc;omega
   have hlt2:i.i<b.length:=by omega
   have hta:=Jc hlt
   have htb:=Jc hlt2
   refine QP<|QC<|QG<|Qa<|QG<|JN subl_r mixed (by kernel_rfl)<|QK (QD rfl)<|QK (QD rfl)<|QK (Ja (n:=n) (i.i) (fun F ⟨hR,hP,hR2,hP2⟩=>hR) rfl rfl Zh Xr (by omega))<|QK (QH rfl BS JR)<|QK (Jk (n:=n) ((i.i)*2+0) (fun F ⟨hR,hP,hR2,hP2⟩=>hR) (by omega) rfl JR (XM (f:=WQ) (l:=a) VY (by omega) rfl))<|QK (QD rfl)<|QK (QD rfl)<|QK (Ja (n:=n2) (i.i) (fun F ⟨hR,hP,hR2,hP2⟩=>hR2) rfl rfl Zh Xr (by omega))<|QK (QH rfl BS JR)<|QK (Jk (n:=n2) ((i.i)*2+0) (fun F ⟨hR,hP,hR2,hP2⟩=>hR2) (by omega) rfl JR (XM (f:=WQ) (l:=b) VY (by omega) rfl))<|QK (La rfl rfl)<|QK (QD rfl) ?_
   refine Bl (t:=28) rfl (fun hb28=>?_) (fun hb28=>?_)
   ·
    have h28:¬ (el a i.i).f=(el b i.i).f:=bne_iff_ne.1 hb28
    refine Js rfl rfl rfl<|Js rfl rfl rfl<|Js rfl rfl rfl<|Js rfl rfl rfl<|Js rfl rfl rfl<|Js rfl rfl rfl<|Js rfl rfl rfl<|Js rfl rfl rfl<|Js rfl rfl rfl<|Js rfl rfl rfl<|Js rfl rfl rfl<|Js rfl rfl rfl<|QK (Qi rfl rfl rfl)<|Q4<|QC<|WT rfl<|J_sr<|JS_as rfl<|JS_nt<|QT ?_
    repeat (first | refine JJ ?_ | refine JA ?_)
    exact QQ (()) rfl (.tmp rfl .nil) (congrArg Value.bool (decide_eq_false (fun e=>by first | exact h28 (RF hlt hlt2 e).1 | (have g:=(RF hlt hlt2 e).2;rw [g] at hc;simp at hc)))) (fun F ⟨hR,hP,hR2,hP2⟩=>trivial)
   ·
    have h28:(el a i.i).f=(el b i.i).f:=bne_eq_false_iff_eq.1 hb28
    refine Jw rfl rfl<|QK (QD rfl)<|Jw rfl rfl<|QK (QD rfl)<|Jw rfl rfl<|QK (Ja (n:=n) (i.i) (fun F ⟨hR,hP,hR2,hP2⟩=>hR) rfl rfl Zh Xr (by omega))<|Jw rfl rfl<|QK (QH rfl WI Qz)<|Jw rfl rfl<|QK (Jk (n:=n) ((i.i)*2+1) (fun F ⟨hR,hP,hR2,hP2⟩=>hR) (by omega) rfl Qz (XM (f:=WQ) (l:=a) VY (by omega) rfl))<|Jw rfl rfl<|QK (QD rfl)<|Jw rfl rfl<|QK (QD rfl)<|Jw rfl rfl<|QK (Ja (n:=n2) (i.i) (fun F ⟨hR,hP,hR2,hP2⟩=>hR2) rfl rfl Zh Xr (by omega))<|Jw rfl rfl<|QK (QH rfl WI Qz)<|Jw rfl rfl<|QK (Jk (n:=n2) ((i.i)*2+1) (fun F ⟨hR,hP,hR2,hP2⟩=>hR2) (by omega) rfl Qz (XM (f:=WQ) (l:=b) VY (by omega) rfl))<|Jw rfl rfl<|QY rfl (fun w F hF ⟨hR,hP,hR2,hP2⟩=>Sj hF (a:=(el a i.i).k) (b:=(el b i.i).k) (hP _ hta) (hP2 _ htb) (hf _ hta)) (fun _=>Jw rfl rfl<|QK (Yt rfl)<|QK (Qh rfl rfl rfl) ?_)
    refine Q4<|QC ?_
    refine QR rfl (fun hc=>?_) (fun hc=>?_)
    ·
     refine J_sr<|JS_as rfl<|JS_nt<|QT ?_
     repeat (first | refine JJ ?_ | refine JA ?_)
     exact QQ (()) rfl (.tmp rfl .nil) (congrArg Value.bool (decide_eq_false (fun e=>by first | exact h28 (RF hlt hlt2 e).1 | (have g:=(RF hlt hlt2 e).2;rw [g] at hc;simp at hc)))) (fun F ⟨⟨hR,hP,hR2,hP2⟩,_⟩=>trivial)
    ·
     refine QP<|Qk<|QC<|QB<|JS_mv rfl<|QA (Qu rfl rfl (by omega))<|JS_as rfl<|QE ?_
     exact Qo (⟨i.i+1,hlt,i.next hlt hlt2 h28 (by simpa using hc)⟩) (by show a.length - (i.i+1)<a.length - i.i;omega) ⟨rfl,rfl,rfl,trivial⟩ subl_r (fun F h=>h.1)
  ·
   have hge:i.i=a.length:=by have:=dec_f hc;omega
   refine Q5 ?_
   repeat (first | refine Qd ?_ | refine QW (by rfl) ?_)
   refine Qe<|QC<|J_sr<|JS_as rfl<|JS_nt<|QT ?_
   exact QQ (()) rfl (.tmp rfl .nil) (congrArg Value.bool (decide_eq_true (by have h:=i.h;rw [hge,List.take_of_length_le (by rw [GU];omega),List.take_of_length_le (by rw [GU];omega)] at h;exact h))) (fun F ⟨hR,hP,hR2,hP2⟩=>trivial)
end
section
open Go.RowKit Ig
structure R5 {α:Type} (l:List α) (p:α→Bool) where
 i:Nat
 le:i≤l.length
 z:∀ x∈l.take i,p x=false
section
variable {α:Type} [Inhabited α] {l:List α} {p:α→Bool}
def R5.start (l:List α) (p:α→Bool):R5 l p:=⟨0,Nat.zero_le _,by simp⟩
def R5.next (s:R5 l p) (h:s.i<l.length) (e:p (el l s.i)=false):R5 l p:=⟨s.i+1,h,fun x hx=>by
 rw [ZD h] at hx
 rcases List.mem_append.1 hx with hx | hx
 ·exact s.z x hx
 ·rw [List.mem_singleton.1 hx];exact e⟩
theorem R5.hit (s:R5 l p) (h:s.i<l.length) (e:p (el l s.i)=true):l.any p=true:=List.any_eq_true.2 ⟨_,Jc h,e⟩
theorem R5.stop (s:R5 l p) (h:l.length≤s.i):¬ l.any p=true:=by
 rw [List.any_eq_true]
 rintro ⟨x,hx,e⟩
 have:=s.z x (by rw [List.take_of_length_le h];exact hx)
 rw [this] at e;cases e
end
end
section
open Go.RowKit Ig
section
variable {P:Program} {Q:Exit→Act→World→Prop} {N:Nat} {m:Sl} {E0:Env} {ops:Array Oper} {l:List Oper} {w0:World} {F0:Gs} {bs:List (Nat×Obj)} {G:Gs→Prop} {ty:TypeId}
theorem qn {d:Nat} {pos:String} {aft:Array Edge} {t e:TypeId} {sz bytes n:Nat} {z:List Value} {g:Bool} {X Y:Operand} {kl:IntKind} (hx:ev m X=some (.int kl (n:Int))) (hy:ev m Y=some (.int kl (n:Int))) (ht:Hp P t=some e) (hs:Z9 P e=some (g,sz)) (hz:XG P e=some z) (hzl:z.length=sz) (hby:YM P e=some bytes) (h63:(n:Int)≤9223372036854775807) (h48:n*bytes≤281474976710656)
  (k:∀ b,JD P ops Q E0 l N ((d,.slice (some ⟨b,0,none⟩) n n)::m) ⟨w0,F0,(b,.cells (ZS z n).toArray e (0,0))::bs,G⟩) (hu:WC e=true:=by rfl) (hd:J0 N (some d)=true:=by rfl) :
  JD P ops Q E0 (⟨some d,.makeSlice t X Y,ty,pos,aft,none⟩::l) N m ⟨w0,F0,bs,G⟩:=fun hE a w ha hw=>by
 have hS:=hw.alloc (.cells (ZS z n).toArray e (0,0)) (Xc hu)
 have sub:∀ w' b,St ⟨w0,F0,(b,.cells (ZS z n).toArray e (0,0))::bs,G⟩ w'→St E0 w':=fun w' b h=>hE w' (h.imp (List.sublist_cons_self _ _) fun _ h=>h)
 refine .inr ⟨rfl,?_⟩
 rw [if_pos (by simp [Region.wanted])]
 exact upon_value (by
  simp only [execOp,ha.ev hx,ha.ev hy,Sem.run_bind,PE ht hs hz hzl hby h63 h48,Result.andThen_ok,Sem.run_pure]) ⟨sub _ _ hS,k _ (fun w' h=>sub w' _ h) _ _ (ha.put hd _) hS⟩
end
def VB (a:Rat) (k:Nat):List Tm:=if a=0 then [] else [(a,List.replicate k 0)]
theorem Sy {w:World} {F:Gs} {x:Fr} {a:Rat} {k:Nat} (hF:Fits F w) (hA:JW F x a) (hk:k≤1000):QS Tryz.prog 222 [x.v,.int .i64 (k:Nat)] w F (fun(c:Wd)=>c.1.v) (fun c F=>Jm F c.1 c.2 (VB a k)):=by
 dsimp only [Fr.v]
 refine QS.intro (G:=fun F=>JW F x a) Tryz.func222 rfl (by rfl) rfl rfl hF (fun F' hF'=>hA.le hF')<|J_sr<|Qw rfl (vs:=[_,_,_,_]) rfl (fun b2=>JS_as rfl<|JS_nt<|QG<|J_sr<|QA (QJ (vs:=[_,_,_,_]) rfl Qc .here (.here (.here (.here (.here .nil)))) rfl)<|QI rfl (fun w F hF ⟨hxn,hxd⟩=>GP hF ⟨by assumption,by assumption⟩) (fun _=>QA (QV rfl rfl rfl)<|QE<|QC ?_))
 refine QR rfl (fun hc=>?_) (fun hc=>?_)
 ·
  have ha0:a=0:=H8.1 (by simpa using hc)
  refine J_sr<|JS_as rfl<|JS_nt<|QT ?_
  exact QQ ((⟨none,0,0⟩,[])) rfl (.tmp rfl .nil) (rfl) (fun F ⟨⟨hxn,hxd⟩,_⟩=>⟨Q9.nil F none 5,(fun _ h=>by cases h),by unfold VB;rw [if_pos ha0];rfl,Nat.le_refl _,rfl⟩)
 ·
  have ha0:a≠0:=fun e=>by rw [e] at hc;cases hc
  refine QP<|QC<|QG<|JN subl_r mixed (by kernel_rfl)<|QK (QJ (vs:=[_,_,_,_]) rfl Qc .here (.here (.here (.here (.here .nil)))) rfl)<|QK (QD rfl)<|qn (n:=k) (bytes:=8) rfl rfl Qf Qp VQ rfl DF (by omega) (by omega) (fun b10=>?_)
  rw [show ZS [Value.int .i64 0] k=(List.replicate k (0:Int)).map Qx by rw [Kv];simp [Qx]]
  refine Ib (b:=b10) .here subl_r (fun _ h=>h)<|QK (Qy rfl Md ZW (.cons (vs:=[_,_,_,_]) rfl rfl rfl (.here (.here (.here (.here .nil)))) (.cons (vs:=[_]) rfl rfl rfl (.skip (.skip (.skip (.skip (.here .nil))))) .nil))) ?_
  refine Jp rfl (Q6 J1) Jd ZW rfl rfl (fun b12=>?_) (fun w h=>h.imp (.cons_cons _ .slnil) (fun F h=>h.1))
  refine QK (QF rfl)<|Q4<|QC<|QT ?_
  exact QQ ((⟨some ⟨b12,0,none⟩,1,1⟩,[⟨x,⟨some ⟨b10,0,none⟩,k,k⟩,(a,(List.replicate k (0:Int)))⟩])) rfl (.tmp rfl .nil) (rfl) (fun F ⟨⟨⟨⟨hxn,hxd⟩,_⟩,hz⟩,hs12⟩=>⟨Q9.of hs12 rfl,fun t ht=>by
  rw [List.mem_singleton.1 ht]
  exact⟨⟨hxn,hxd⟩,Q9.of hz (by simp),by simp,Nat.le_refl _⟩,by unfold VB;rw [if_neg ha0];rfl,Nat.le_refl _,rfl⟩)
end
section
open Go.RowKit Ig
def WA (p:List Tm) (k:Nat):Nat→List Tm
 |0=>VB 1 k
 |i+1=>XC (Jg (WA p k i) p)
structure dX (n:Nat) where
 i:Nat
 c:Wd
 le:i≤n
structure Bj (p q:List Tm) (N:Nat):Prop where
 wp:∀ t∈p,t.2.length=N
 wq:∀ t∈q,t.2.length=N
 lp:p.length≤10000
 lq:q.length≤10000
 pp:∀ t∈p,PW t.2
 pq:∀ t∈q,PW t.2
 pm:∀ s∈p,∀ t∈q,PW (Xj s.2 t.2)
 zp:Zb p≤20000000
 zq:Zb q≤20000000
 zm:Zb (Jg p q)≤40000000
theorem Sw {w:World} {F:Gs} {p q:Wd} {N:Nat} (hF:Fits F w) (hGl:JB F) (hP:Jm F p.1 p.2 (JF p.2)) (hQ:Jm F q.1 q.2 (JF q.2)) (hN:N≤1000) (h:Bj (JF p.2) (JF q.2) N) :
  QS Tryz.prog 223 [p.1.v,q.1.v] w F (fun(c:Wd)=>c.1.v) (fun c F=>Jm F c.1 c.2 (XC (Jg (JF p.2) (JF q.2)))) :=
 xN hF hGl hP hQ ⟨fun t ht=>h.wp _ (List.mem_map_of_mem ht),fun t ht=>h.wq _ (List.mem_map_of_mem ht)⟩ hN ⟨by have:=h.lp;rwa [Y3] at this,by have:=h.lq;rwa [Y3] at this⟩
  ⟨fun t ht=>h.pp _ (List.mem_map_of_mem ht),fun t ht=>h.pq _ (List.mem_map_of_mem ht),fun s hs t ht=>h.pm _ (List.mem_map_of_mem hs) _ (List.mem_map_of_mem ht)⟩ ⟨h.zp,h.zq⟩ h.zm
theorem xM {w:World} {F:Gs} {p:Wd} {n k:Nat} (hF:Fits F w) (hGl:JB F) (hP:Jm F p.1 p.2 (JF p.2)) (hk:k≤1000) (hn:n≤1000000) (hm:∀ i,i<n→Bj (WA (JF p.2) k i) (JF p.2) k) :
  QS Tryz.prog 224 [p.1.v,.int .i64 (n:Nat),.int .i64 (k:Nat)] w F (fun(c:Wd)=>c.1.v) (fun c F=>Jm F c.1 c.2 (WA (JF p.2) k n)):=by
 dsimp only [Sr.v]
 refine QS.intro (G:=fun F=>JB F∧Jm F p.1 p.2 (JF p.2)) Tryz.func224 rfl (by rfl) rfl rfl hF (fun F' hF'=>⟨hGl.le hF',hP.le hF'⟩)<|J_sr<|JS_as rfl<|JS_nt<|J_sr<|QI rfl (fun w F hF ⟨hGl,hP⟩=>gG hF (by omega) (by omega)) (fun x8=>JS_mv rfl<|QI rfl (fun w F hF ⟨⟨hGl,hP⟩,⟨h8,h8_⟩⟩=>Sy (a:=1) hF ⟨h8,h8_⟩ hk) (fun c10=>JS_as rfl<|JS_nt<|QG<|J_sr<|JS_mv rfl<|JS_mv rfl<|JS_nt<|Qa<|Jz (ι:=dX n) [(0,_),(11,_)] (fun i=>[(7,i.c.1.v),(12,.int .i64 ((i.i:Nat):Int))]) (fun i=>[]) (fun i F=>Jm F i.c.1 i.c.2 (WA (JF p.2) k i.i)) (fun i=>n - i.i) (⟨0,c10,Nat.zero_le _⟩) ⟨rfl,rfl,trivial⟩ ⟨rfl,rfl,trivial⟩ subl_r (fun _ h=>h.2) (fun i=>?_)))
 simp only [List.cons_append,List.nil_append]
 have hi:=i.le
 refine J_sr<|QA (QV rfl rfl rfl)<|JS_nt<|QG ?_
 refine QR rfl (fun hc=>?_) (fun hc=>?_)
 ·
  have hlt:i.i<n:=by have:=dec_t hc;omega
  refine QP<|QC<|QG<|Qa<|QB<|JS_mv rfl<|JS_mv rfl<|JK _ (fun w F hF ⟨⟨⟨⟨hGl,hP⟩,⟨h8,h8_⟩⟩,h10⟩,hC⟩=>hC.2.2.1) (fun hce=>QI rfl (fun w F hF ⟨⟨⟨⟨hGl,hP⟩,⟨h8,h8_⟩⟩,h10⟩,hC⟩=>Sw (N:=k) hF hGl (p:=i.c) (q:=p) (by rw [hce];exact hC) hP hk (by rw [hce];exact hm _ hlt)) (fun c16=>?_))
  rw [hce]
  refine JS_as rfl<|QE<|Qk<|QC<|QB<|QA (Qu rfl rfl (by omega))<|JS_mv rfl<|QE ?_
  exact Qo (⟨i.i+1,c16,hlt⟩) (by show n - (i.i+1)<n - i.i;omega) ⟨rfl,rfl,rfl,rfl,trivial⟩ subl_r (fun F h=>⟨h.1.1,h.2⟩)
 ·
  have hge:i.i=n:=by have:=dec_f hc;omega
  refine Q5 ?_
  repeat (first | refine Qd ?_ | refine QW (by rfl) ?_)
  refine Qe<|QC<|J_sr<|JS_mv rfl<|JS_as rfl<|JS_nt<|QT ?_
  exact QQ (i.c) rfl (.tmp rfl .nil) (rfl) (fun F ⟨⟨⟨⟨hGl,hP⟩,⟨h8,h8_⟩⟩,h10⟩,hC⟩=>by rw [hge] at hC;exact hC)
end
section
open Go.RowKit Ig
def DD (c:Rat) (ws:List (List Tm)) (ks:List Int) (k:Nat):Nat→List Tm
 |0=>VB c k
 |i+1=>XC (Jg (DD c ws ks k i) (WA (el ws i) k (Qg ks i).toNat))
def WM (ws:List (List Tm)) (k:Nat) (l:List Tm):List Tm:=l.foldl (fun a t=>XC (a++DD t.1 ws t.2 k t.2.length)) []
theorem IH {ts:List XO} {ws:List (List Tm)} {k i:Nat} (h:i<ts.length):WM ws k (JF (ts.take (i+1)))=XC (WM ws k (JF (ts.take i))++DD (el ts i).t.1 ws (el ts i).t.2 k (el ts i).t.2.length):=by
 rw [Xk h];unfold WM;rw [List.foldl_append];rfl
structure Oy (p q:List Tm):Prop where
 pp:∀ t∈p,PW t.2
 pq:∀ t∈q,PW t.2
 lp:p.length≤400000000
 lq:q.length≤400000000
 zs:Zb (p++q)≤40000000
theorem Ly {w:World} {F:Gs} {p q:Wd} (hF:Fits F w) (hGl:JB F) (hP:Jm F p.1 p.2 (JF p.2)) (hQ:Jm F q.1 q.2 (JF q.2)) (h:Oy (JF p.2) (JF q.2)) :
  QS Tryz.prog 139 [p.1.v,q.1.v] w F (fun(c:Wd)=>c.1.v) (fun c F=>Jm F c.1 c.2 (XC (JF p.2++JF q.2))) :=
 xR hF hGl hP hQ ⟨fun t ht=>h.pp _ (List.mem_map_of_mem ht),fun t ht=>h.pq _ (List.mem_map_of_mem ht)⟩ ⟨by have:=h.lp;rwa [Y3] at this,by have:=h.lq;rwa [Y3] at this⟩ h.zs
structure dt (n:Nat) where
 i:Nat
 c:Wd
 le:i≤n
structure dw (n:Nat) where
 j:Nat
 d:Wd
 le:j≤n
def N2 (ws:List Wd):List (List Tm):=ws.map fun e=>JF e.2
theorem UA {ws:List Wd} {j:Nat} (h:j<ws.length):el (N2 ws) j=JF (el ws j).2:=by rw [Za (by simpa [N2] using h),Za h];simp [N2]
theorem Ue {w:World} {F:Gs} {q q2:Option Addr} {n cap n2 cap2 k:Nat} {ts:List XO} {ws:List Wd} (hF:Fits F w) (hGl:JB F) (hP:Jm F ⟨q,n,cap⟩ ts (JF ts)) (hW:Q9 F q2 n2 1 (ws.map fun e=>e.1.v)) (hWs:Tt F ws) (hw:ws.length=n2) (hk:k≤1000) (hl:ts.length≤1000000)
  (hp:∀ t∈ts,t.t.2.length≤n2∧PW t.t.2) (h1:∀ t∈ts,∀ j,j<t.t.2.length→Bj (DD t.t.1 (N2 ws) t.t.2 k j) (WA (el (N2 ws) j) k (Qg t.t.2 j).toNat) k∧∀ i,i<(Qg t.t.2 j).toNat→Bj (WA (el (N2 ws) j) k i) (el (N2 ws) j) k)
  (h2:∀ i,i<ts.length→Oy (WM (N2 ws) k (JF (ts.take i))) (DD (el ts i).t.1 (N2 ws) (el ts i).t.2 k (el ts i).t.2.length)) :
  QS Tryz.prog 144 [.slice q n cap,.slice q2 n2 cap2,.int .i64 (k:Nat)] w F (fun(c:Wd)=>c.1.v) (fun c F=>Jm F c.1 c.2 (WM (N2 ws) k (JF ts))):=by
 have hln:ts.length=n:=hP.2.2.2.2
 refine QS.intro (G:=fun F=>JB F∧Jm F ⟨q,n,cap⟩ ts (JF ts)∧Q9 F q2 n2 1 (ws.map fun e=>e.1.v)∧Tt F ws) Tryz.func144 rfl (by rfl) rfl rfl hF (fun F' hF'=>⟨hGl.le hF',hP.le hF',hW.le hF',hWs.le hF'⟩)<|J_sr<|JS_as rfl<|JS_nt<|J_sr<|JS_as rfl<|JS_nt<|QG<|J_sr<|JS_mv rfl<|QA (Ql rfl J1)<|JS_mv rfl<|JS_nt<|Qa<|Jz (ι:=dt ts.length) [(1,_),(2,_),(13,_),(14,_)] (fun i=>[(7,i.c.1.v),(15,.int .i64 ((i.i:Nat):Int))]) (fun i=>[]) (fun i F=>Jm F i.c.1 i.c.2 (WM (N2 ws) k (JF (ts.take i.i)))) (fun i=>ts.length - i.i) (⟨0,(⟨none,0,0⟩,[]),Nat.zero_le _⟩) ⟨rfl,rfl,rfl,rfl,trivial⟩ ⟨rfl,rfl,trivial⟩ subl_r (fun F _=>⟨Q9.nil F none 5,(fun _ h=>by cases h),rfl,Nat.le_refl _,rfl⟩) (fun i=>?_)
 simp only [List.cons_append,List.nil_append]
 have hi:=i.le
 refine J_sr<|QA (QV rfl rfl rfl)<|JS_nt<|QG ?_
 refine QR rfl (fun hc=>?_) (fun hc=>?_)
 ·
  have hlt:i.i<ts.length:=by have:=dec_t hc;omega
  have htm:=Jc hlt
  have hp1:=hp _ htm
  have hpl:=hp1.2.2
  have hrl:=(hP.2.1 _ htm).2.2.1
  refine QP<|QC<|QG<|Qa<|J_sr<|QA (Ja (n:=n) (i.i) (fun F ⟨⟨hGl,hP,hW,hWs⟩,hC⟩=>(hP).1) rfl rfl J1 Jd (by omega))<|QA (X2 (n:=n) (vs:=[.int .i64 (el ts (i.i)).x.n.s,.slice (el ts (i.i)).x.n.q (el ts (i.i)).x.n.n (el ts (i.i)).x.n.cap,.int .i64 (el ts (i.i)).x.d.s,.slice (el ts (i.i)).x.d.q (el ts (i.i)).x.d.n (el ts (i.i)).x.d.cap,.slice (el ts (i.i)).r.q (el ts (i.i)).r.n (el ts (i.i)).r.cap]) ((i.i)*5) (fun F ⟨⟨hGl,hP,hW,hWs⟩,hC⟩=>(hP).1) (by omega) rfl Jd rfl (fun j v hv=>XM (f:=Ya) (l:=ts) YH (by omega) hv))<|Qb ZW (fun b9=>QN (vs:=[_,_,_,_,_]) rfl rfl rfl Jd rfl .here (.here (.here (.here (.here (.here .nil))))) ⟨rfl,rfl,rfl,rfl,rfl,trivial⟩<|JS_nt<|J_sr<|QA (QH rfl Z0 Qc)<|QA (QJ (vs:=[_,_,_,_]) rfl Qc .here (.here (.here (.here (.here .nil)))) rfl)<|JS_mv rfl<|QI rfl (fun w F hF ⟨⟨hGl,hP,hW,hWs⟩,hC⟩=>Sy (a:=(el ts i.i).t.1) (x:=(el ts i.i).x) hF (hP.2.1 _ htm).1 hk) (fun c22=>JS_as rfl<|JS_nt<|QG<|J_sr<|QA (QH rfl X4 Qz) ?_))
  refine QA (Qj rfl Qz .here (.skip (.skip (.skip (.skip (.here .nil))))))<|QA (Ql rfl Qf)<|JS_mv rfl<|JS_nt<|Qa<|Jz (ι:=dw (el ts i.i).t.2.length) [(1,_),(2,_),(7,_),(13,_),(14,_),(15,_),(24,_),(25,_)] (fun i2=>[(10,i2.d.1.v),(26,.int .i64 ((i2.j:Nat):Int))]) (fun i2=>[]) (fun i2 F=>Jm F i2.d.1 i2.d.2 (DD (el ts i.i).t.1 (N2 ws) (el ts i.i).t.2 k i2.j)) (fun i2=>(el ts i.i).t.2.length - i2.j) (⟨0,c22,Nat.zero_le _⟩) ⟨rfl,rfl,rfl,rfl,rfl,rfl,rfl,rfl,trivial⟩ ⟨rfl,rfl,trivial⟩ (List.nil_sublist _) (fun _ h=>h.2) (fun i2=>?_)
  simp only [List.cons_append,List.nil_append]
  have hj:=i2.le
  refine J_sr<|QA (QV rfl rfl rfl)<|JS_nt<|QG ?_
  refine QR rfl (fun hc=>?_) (fun hc=>?_)
  ·
   have hlt2:i2.j<(el ts i.i).t.2.length:=by have:=dec_t hc;omega
   have hlw:i2.j<ws.length:=by omega
   have hem:=Jc hlw
   have hk1:=hp1.2.el hlt2
   refine QP<|QC<|QG<|Qa<|J_sr<|JS_mv rfl<|QA (Ja (n:=(el ts i.i).r.n) (i2.j) (fun F ⟨⟨⟨⟨hGl,hP,hW,hWs⟩,hC⟩,h22⟩,hD⟩=>((hP.2.1 _ htm).2).1) rfl rfl Qf Qp (by omega))<|QA (Jk (n:=(el ts i.i).r.n) ((i2.j)*1) (fun F ⟨⟨⟨⟨hGl,hP,hW,hWs⟩,hC⟩,h22⟩,hD⟩=>((hP.2.1 _ htm).2).1) (by omega) rfl Qp (JO (o:=(el ts i.i).t.2) (by omega)))<|JS_as rfl<|JS_as rfl<|JS_nt<|QB<|JS_mv rfl<|JS_mv rfl<|JS_mv rfl<|QA (Ja (n:=n2) (i2.j) (fun F ⟨⟨⟨⟨hGl,hP,hW,hWs⟩,hC⟩,h22⟩,hD⟩=>hW) rfl rfl Bv Vz (by omega))<|QA (Jk (n:=n2) ((i2.j)*1) (fun F ⟨⟨⟨⟨hGl,hP,hW,hWs⟩,hC⟩,h22⟩,hD⟩=>hW) (by omega) rfl Vz (Mr (f:=fun e:Wd=>e.1.v) (l:=ws) (by omega)))<|JS_mv rfl<|JS_mv rfl ?_
   rw [show(.int .i64 (Qg (el ts i.i).t.2 i2.j):Value) = .int .i64 (((Qg (el ts i.i).t.2 i2.j).toNat:Nat):Int) by rw [Int.toNat_of_nonneg hk1.1]]
   refine QI rfl (fun w F hF ⟨⟨⟨⟨hGl,hP,hW,hWs⟩,hC⟩,h22⟩,hD⟩=>xM (p:=el ws i2.j) hF hGl (hWs _ hem) hk (by omega) (by rw [← UA hlw];exact(h1 _ htm _ hlt2).2)) (fun c38=>JK _ (fun w F hF ⟨⟨⟨⟨⟨hGl,hP,hW,hWs⟩,hC⟩,h22⟩,hD⟩,h38⟩=>And.intro hD.2.2.1 h38.2.2.1) (fun hde=>?_))
   obtain ⟨hde,h38e⟩:=hde
   refine QI rfl (fun w F hF ⟨⟨⟨⟨⟨hGl,hP,hW,hWs⟩,hC⟩,h22⟩,hD⟩,h38⟩=>Sw (N:=k) hF hGl (p:=i2.d) (q:=c38) (by rw [hde];exact hD) (by rw [h38e];exact h38) hk (by rw [hde,h38e,← UA hlw];exact(h1 _ htm _ hlt2).1)) (fun c39=>?_)
   rw [hde,h38e,← UA hlw]
   refine JS_as rfl<|QE<|Qk<|QC<|QB<|QA (Qu rfl rfl (by omega))<|JS_mv rfl<|QE ?_
   exact Qo (⟨i2.j+1,c39,hlt2⟩) (by show(el ts i.i).t.2.length - (i2.j+1)<(el ts i.i).t.2.length - i2.j;omega) ⟨rfl,rfl,rfl,rfl,rfl,rfl,rfl,rfl,rfl,rfl,trivial⟩ (List.nil_sublist _) (fun F h=>⟨h.1.1.1,h.2⟩)
  ·
   have hge2:i2.j=(el ts i.i).t.2.length:=by have:=dec_f hc;omega
   refine Q5 ?_
   repeat (first | refine Qd ?_ | refine QW (by rfl) ?_)
   refine Qe<|QC<|QB<|JS_mv rfl<|JS_mv rfl<|JK _ (fun w F hF ⟨⟨⟨⟨hGl,hP,hW,hWs⟩,hC⟩,h22⟩,hD⟩=>And.intro hC.2.2.1 hD.2.2.1) (fun hde=>?_)
   obtain ⟨hce,hde⟩:=hde
   rw [hge2] at hde
   refine QI rfl (fun w F hF ⟨⟨⟨⟨hGl,hP,hW,hWs⟩,hC⟩,h22⟩,hD⟩=>Ly hF hGl (p:=i.c) (q:=i2.d) (by rw [hce];exact hC) (by rw [hde];rw [hge2] at hD;exact hD) (by rw [hce,hde];exact h2 _ hlt)) (fun c43=>?_)
   rw [hce,hde]
   refine JS_as rfl<|QE<|Qk<|QC<|QB<|QA (Qu rfl rfl (by omega))<|JS_mv rfl<|QE ?_
   exact Qo (⟨i.i+1,c43,hlt⟩) (by show ts.length - (i.i+1)<ts.length - i.i;omega) ⟨rfl,rfl,rfl,rfl,rfl,rfl,trivial⟩ (List.nil_sublist _) (fun F h=>⟨h.1.1.1.1,by rw [IH hlt];exact h.2⟩)
 ·
  have hge:i.i=ts.length:=by have:=dec_f hc;omega
  refine Q5 ?_
  repeat (first | refine Qd ?_ | refine QW (by rfl) ?_)
  refine Qe<|QC<|J_sr<|JS_mv rfl<|JS_as rfl<|JS_nt<|QT ?_
  exact QQ (i.c) rfl (.tmp rfl .nil) (rfl) (fun F ⟨⟨hGl,hP,hW,hWs⟩,hC⟩=>by rw [hge,List.take_length] at hC;exact hC)
end
section
open Go.RowKit Ig
theorem Ck {w:World} {F:Gs} {q:Option Addr} {n c:Nat} {l:List Int} (hF:Fits F w) (hR:Q9 F q n 1 (l.map Qx)) (hn:n≤1000000000):QZ Tryz.prog 142 [.slice q n c] w F (.int .i64 (Qm l)):=by
 have hln:l.length=n:=by have:=hR.1;simpa using this
 have em:l=l.map (fun x=>x):=by simp
 refine QS.intro (G:=fun F=>Q9 F q n 1 (l.map Qx)) Tryz.func142 rfl (by rfl) rfl rfl hF (fun F' hF'=>hR.le hF')<|J_sr<|JS_as rfl<|JS_nt<|J_sr<|JS_as rfl<|JS_nt<|QG<|J_sr<|JS_mv rfl<|QA (Ql rfl ZX)<|JS_mv rfl<|JS_nt<|Qa<|Z3 (ι:=Yj l (fun x=>x)) [(3,_),(6,_),(7,_)] (fun i=>[(8,.int .i64 ((i.i:Nat):Int))]) (fun i=>l.length - i.i) (Yj.start _ _) ⟨rfl,rfl,rfl,trivial⟩ ⟨rfl,trivial⟩ (fun i=>?_)
 simp only [List.cons_append,List.nil_append]
 have hi:=i.le
 refine J_sr<|QA (QV rfl rfl rfl)<|JS_nt<|QG ?_
 refine QR rfl (fun hc=>?_) (fun hc=>?_)
 ·
  have hlt:i.i<l.length:=by have:=dec_t hc;omega
  refine QP<|QC<|QG<|Qa<|J_sr<|QA (Ja (n:=n) (i.i) (fun F hR=>hR) rfl rfl ZX Yp (by omega))<|QA (Jk (n:=n) ((i.i)*1) (fun F hR=>hR) (by omega) rfl Yp (JO (o:=l) (by omega)))<|JS_as rfl<|JS_nt<|J_sr<|JS_mv rfl<|JS_mv rfl<|QA (QV rfl rfl rfl)<|QE<|QC ?_
  refine QR rfl (fun hc=>?_) (fun hc=>?_)
  ·
   refine J_sr<|JS_mv rfl<|JS_as rfl<|JS_nt<|QT ?_
   repeat (first | refine JJ ?_ | refine JA ?_)
   exact QQ (()) rfl (.tmp rfl .nil) (congrArg (Value.int .i64) (by rw [Xp hlt,H9 l];exact i.hit hlt (by rw [← Xp hlt];simpa using hc))) (fun F hR=>trivial)
  ·
   refine QP<|Qk<|QC<|QB<|QA (Qu rfl rfl (by omega))<|JS_mv rfl<|QE ?_
   exact Qo (i.next hlt (by rw [← Xp hlt];simpa using hc)) (by show l.length - (i.i+1)<l.length - i.i;omega) ⟨rfl,rfl,rfl,rfl,trivial⟩ subl_r (fun F h=>h)
 ·
  have hge:l.length≤i.i:=by have:=dec_f hc;omega
  refine Q5 ?_
  repeat (first | refine Qd ?_ | refine QW (by rfl) ?_)
  refine Qe<|QC<|J_sr<|JS_mv rfl<|JS_as rfl<|JS_nt<|QT ?_
  exact QQ (()) rfl (.tmp rfl .nil) (congrArg (Value.int .i64) (by rw [H9 l];exact i.stop hge)) (fun F hR=>trivial)
structure FH (ws:List (List Tm)) (k:Nat) (l:List Tm):Prop where
 mul:∀ t∈l,∀ j,j<t.2.length→Bj (DD t.1 ws t.2 k j) (WA (el ws j) k (Qg t.2 j).toNat) k∧∀ i,i<(Qg t.2 j).toNat→Bj (WA (el ws j) k i) (el ws j) k
 add:∀ i,i<l.length→Oy (WM ws k (l.take i)) (DD (el l i).1 ws (el l i).2 k (el l i).2.length)
 pw:∀ t∈WM ws k l,PW t.2
 sz:∀ t∈WM ws k l,JL t.1≤100000000
 len:(WM ws k l).length≤1000000
def AP (ls:List Ku):List (List Tm):=ls.map fun e=>JG (XB e.2)
structure dp (ls:List Ku) where
 i:Nat
 v:Value
 ob:List (Nat×Obj)
 ws:List Wd
 le:i≤ls.length
 hr:Q3 157 1 v i (ws.map fun e=>e.1.v) ob
 hx:N2 ws=AP (ls.take i)
theorem dp.len {ls:List Ku} (s:dp ls):s.ws.length=s.i:=by
 have:=congrArg List.length s.hx
 have h:=s.le
 simp only [N2,AP,List.length_map,List.length_take] at this;omega
theorem qT {ls:List Ku} {ws:List Wd} {i:Nat} {c:Wd} (h:N2 ws=AP (ls.take i)) (hi:i<ls.length) (e:JF c.2=JG (XB (el ls i).2)):N2 (ws++[c])=AP (ls.take (i+1)):=by
 have e1:N2 (ws++[c])=N2 ws++[JF c.2]:=by unfold N2;rw [List.map_append];rfl
 rw [e1,h,e,ZD hi];unfold AP;rw [List.map_append];rfl
theorem j7 {ts:List XO} {i:Nat} (h:i<ts.length):(el ts i).t=el (JF ts) i:=by rw [Za h,Za (by simpa [JF] using h)];simp [JF]
theorem Iy (ts:List XO) (i:Nat):JF (ts.take i)=(JF ts).take i:=by simp [JF,List.map_take]
theorem IF {w:World} {F:Gs} {a:Ku} {q:Option Addr} {n cap:Nat} {ls:List Ku} {v u:Int} (hF:Fits F w) (hGl:JB F) (hP:YD F [a]) (hta:VN a) (hR:Q9 F q n 1 (ls.map fun e=>e.1.v)) (hA:YD F ls) (hn:ls.length=n) (ht:∀ e∈ls,VN e)
  (hv:0≤v∧v≤24) (hu:0≤u∧u≤24) (ha:Xs (XB a.2) v=0) (hnv:(n:Int)=v+1) (hall:Vv ls u=0) (ho:FH (AP ls) (u+1).toNat (JG (XB a.2))) :
  QS Tryz.prog 44 [a.1.v,.int .i64 v,.slice q n cap,.int .i64 u] w F (fun(c:Ku)=>.tuple #[c.1.v,.int .i64 (Bz (WM (AP ls) (u+1).toNat (JG (XB a.2))))]) (fun c F=>VK F c.1 c.2 (Nl (WM (AP ls) (u+1).toNat (JG (XB a.2))))):=by
 have haa:a∈[a]:=by simp
 have hcv:Zg v=0:=(Ks v).2 hv
 have hcu:Zg u=0:=(Ks u).2 hu
 have oa:=Vk ha
 obtain ⟨_,ows⟩:=Eg hall
 have la:(JG (XB a.2)).length≤64:=by unfold JG;rw [List.length_map];exact oa.len
 have hpa:∀ t∈JG (XB a.2),PW t.2:=oa.pw hv.2
 have hwd:∀ t∈JG (XB a.2),t.2.length=n:=fun t ht=>by have:=oa.wide t ht;omega
 dsimp only [Sr.v]
 refine QS.intro (G:=fun F=>JB F∧YD F [a]∧Q9 F q n 1 (ls.map fun e=>e.1.v)∧YD F ls) Tryz.func44 rfl (by rfl) rfl rfl hF (fun F' hF'=>⟨hGl.le hF',hP.le hF',hR.le hF',hA.le hF'⟩)<|J_sr<|JS_as rfl<|JS_as rfl<|JS_nt<|QG<|J_sr<|JS_mv rfl<|QI rfl (fun w F hF ⟨hGl,hP,hR,hA⟩=>GR hF ) (fun _=>JS_mv rfl<|QI rfl (fun w F hF ⟨⟨hGl,hP,hR,hA⟩,_⟩=>GR hF ) (fun _=>QU rfl (Q6 ZX) Yp Ho rfl rfl (fun b20=>QI rfl (fun w F hF ⟨⟨⟨⟨hGl,hP,hR,hA⟩,_⟩,_⟩,hs20⟩=>Zm hF (Q9.of (cs:=List.map Qx [Zg v,Zg u]) hs20 rfl) (by decide)) (fun _=>JS_as rfl<|JS_nt<|J_sr<|JS_mv rfl<|QA (QV rfl rfl rfl)<|QE<|QC ?_))))
 refine QR rfl (fun hc=>?_) (fun hc=>?_)
 ·exact absurd hc (by rw [hcv,hcu];decide)
 ·
  refine QP<|QC<|QG<|J_sr<|JS_mv rfl<|JS_mv rfl<|QI rfl (fun w F hF ⟨⟨⟨⟨⟨hGl,hP,hR,hA⟩,_⟩,_⟩,hs20⟩,_⟩=>BU hF hGl ((hP a haa).1) ((hP a haa).2) (hta.1) (hta.2.1) (hta.2.2) (hv)) (fun _=>JS_mv rfl<|QA (Ql rfl Dc)<|JS_mv rfl<|QA (Qu rfl rfl (by omega))<|QA (QV rfl rfl rfl)<|QI rfl (fun w F hF ⟨⟨⟨⟨⟨⟨hGl,hP,hR,hA⟩,_⟩,_⟩,hs20⟩,_⟩,_⟩=>Zn hF ) (fun _=>QU rfl (Q6 ZX) Yp Ho rfl rfl (fun b34=>QI rfl (fun w F hF ⟨⟨⟨⟨⟨⟨⟨⟨hGl,hP,hR,hA⟩,_⟩,_⟩,hs20⟩,_⟩,_⟩,_⟩,hs34⟩=>Ck hF (Q9.of (cs:=List.map Qx [Xs (XB a.2) v,if((n:Int) != v+1)=true then 2 else 0]) hs34 rfl) (by decide)) (fun _=>JS_as rfl<|JS_nt<|J_sr<|JS_mv rfl<|QA (QV rfl rfl rfl)<|QE<|QC ?_))))
  refine QR rfl (fun hc=>?_) (fun hc=>?_)
  ·exact absurd hc (by rw [ha,if_neg (by simp [hnv])];decide)
  ·
   refine QP<|QC<|QG<|J_sr<|JS_mv rfl<|JS_mv rfl<|QI rfl (fun w F hF ⟨⟨⟨⟨⟨⟨⟨⟨⟨hGl,hP,hR,hA⟩,_⟩,_⟩,hs20⟩,_⟩,_⟩,_⟩,hs34⟩,_⟩=>Hi hF hGl (hR) (hA) (hn) (by omega) (ht)) (fun _=>JS_as rfl<|JS_nt<|J_sr<|JS_mv rfl<|QA (QV rfl rfl rfl)<|QE<|QC ?_)
   refine QR rfl (fun hc=>?_) (fun hc=>?_)
   ·exact absurd hc (by rw [hall];decide)
   ·
    refine QP<|QC<|J_sr<|JS_as rfl<|JS_nt<|QG<|J_sr<|JS_mv rfl<|QA (Ql rfl Dc)<|JS_mv rfl<|JS_nt<|Qa<|Jz (ι:=dp ls) [(0,_),(3,_),(45,_),(46,_)] (fun i=>[(13,i.v),(47,.int .i64 ((i.i:Nat):Int))]) (fun i=>i.ob) (fun i F=>Tt F i.ws) (fun i=>ls.length - i.i) (⟨0,_,[],[],Nat.zero_le _,.nil,rfl⟩) ⟨rfl,rfl,rfl,rfl,trivial⟩ ⟨rfl,rfl,trivial⟩ subl_r (fun _ _ _ h=>by cases h) (fun i=>?_)
    simp only [List.cons_append,List.nil_append]
    have hi:=i.le
    refine J_sr<|QA (QV rfl rfl rfl)<|JS_nt<|QG ?_
    refine QR rfl (fun hc=>?_) (fun hc=>?_)
    ·
     have hlt:i.i<ls.length:=by have:=dec_t hc;omega
     have hem:=Jc hlt
     refine QP<|QC<|QG<|Qa<|J_sr<|QA (Ja (n:=n) (i.i) (fun F ⟨⟨⟨⟨⟨⟨⟨⟨⟨⟨⟨hGl,hP,hR,hA⟩,_⟩,_⟩,hs20⟩,_⟩,_⟩,_⟩,hs34⟩,_⟩,_⟩,hWs⟩=>hR) rfl rfl Dc ME (by omega))<|QA (Jk (n:=n) ((i.i)*1) (fun F ⟨⟨⟨⟨⟨⟨⟨⟨⟨⟨⟨hGl,hP,hR,hA⟩,_⟩,_⟩,hs20⟩,_⟩,_⟩,_⟩,hs34⟩,_⟩,_⟩,hWs⟩=>hR) (by omega) rfl ME (Mr (f:=fun e:Ku=>e.1.v) (l:=ls) (by omega)))<|JS_as rfl<|JS_nt<|QB<|JS_mv rfl<|JS_mv rfl<|QI rfl (fun w F hF ⟨⟨⟨⟨⟨⟨⟨⟨⟨⟨⟨hGl,hP,hR,hA⟩,_⟩,_⟩,hs20⟩,_⟩,_⟩,_⟩,hs34⟩,_⟩,_⟩,hWs⟩=>VT hF hGl (a:=el ls i.i) (hA _ hem).1 (hA _ hem).2 (ht _ hem) (ows _ hem) hu) (fun c53=>JK _ (fun w F hF h=>h.2.2.2.1) (fun e53=>QU rfl (Q6 Bv) Vz Iq rfl rfl (fun b54=>?_)))
     rw [← List.append_nil i.ob]
     refine DO (n:=i.i) (k:=1) (sz:=1) (news:=[c53.1.v]) rfl rfl Bv Vz Iq rfl x2 i.hr (Src.row (off:=0) (fun F ⟨⟨⟨⟨⟨⟨⟨⟨⟨⟨⟨⟨⟨hGl,hP,hR,hA⟩,_⟩,_⟩,hs20⟩,_⟩,_⟩,_⟩,hs34⟩,_⟩,_⟩,hWs⟩,h53⟩,hs54⟩=>hs54) (fun j v hv=>by rw [Nat.zero_add];rw [List.getElem?_toArray];exact hv) rfl) (by omega) (by omega) (fun v hv=>by rw [List.mem_singleton.1 hv];rfl) (fun v55 ob55 hr55=>?_)
     refine JS_as rfl<|QE<|Qk<|QC<|QB<|QA (Qu rfl rfl (by omega))<|JS_mv rfl<|QE ?_
     exact Qo (⟨i.i+1,v55,ob55,i.ws++[c53],hlt,by rw [List.map_append];exact hr55,qT i.hx hlt e53⟩) (by show ls.length - (i.i+1)<ls.length - i.i;omega) ⟨rfl,rfl,rfl,rfl,rfl,rfl,trivial⟩ (List.sublist_append_left _ _) (fun F ⟨⟨⟨hB,hWs⟩,h53⟩,_⟩=>⟨hB,fun e he=>by
   rcases List.mem_append.1 he with he | he
   ·exact hWs e he
   ·rw [List.mem_singleton.1 he,e53];exact h53⟩)
    ·
     have hge:i.i=ls.length:=by have:=dec_f hc;omega
     refine Q5 ?_
     repeat (first | refine Qd ?_ | refine QW (by rfl) ?_)
     refine Qe<|QC<|QG<|QB ?_
     have hxl:=i.len
     have hwa:N2 i.ws=AP ls:=by rw [i.hx,hge,List.take_length]
     obtain ⟨⟨rq,rn,rc⟩,hv2,hrn,hrc,hfix⟩:=Q3.fix (w0:=w) (F0:=F) (bs1:=[]) (G:=_) i.hr
     dsimp only at hrn hrc hfix
     subst hrn
     refine DN hfix ?_
     rw [hv2]
     dsimp only [Sr.v]
     refine JS_mv rfl<|QI rfl (fun w F hF ⟨⟨⟨⟨⟨⟨⟨⟨⟨⟨⟨⟨hGl,hP,hR,hA⟩,_⟩,_⟩,hs20⟩,_⟩,_⟩,_⟩,hs34⟩,_⟩,_⟩,hWs⟩,hrow⟩=>VT hF hGl (a:=a) (hP a haa).1 (hP a haa).2 hta oa hv) (fun c58=>JK _ (fun w F hF h=>And.intro h.2.2.2.1 h.2.len) (fun h58p=>?_))
     obtain ⟨e58,l58⟩:=h58p
     refine JS_mv rfl<|JS_mv rfl<|QA (Qu rfl rfl (by omega)) ?_
     rw [show(.int .i64 (u+1):Value) = .int .i64 ((((u+1).toNat:Nat)):Int) by rw [Int.toNat_of_nonneg (by omega)]]
     refine QI rfl (fun w F hF ⟨⟨⟨⟨⟨⟨⟨⟨⟨⟨⟨⟨⟨hGl,hP,hR,hA⟩,_⟩,_⟩,hs20⟩,_⟩,_⟩,_⟩,hs34⟩,_⟩,_⟩,hWs⟩,hrow⟩,h58⟩=>Ue (k:=(u+1).toNat) (ts:=c58.2) (ws:=i.ws) hF hGl (by rw [e58];exact h58) hrow hWs hxl (by omega) (by omega)
      (XD (Q:=fun t=>t.2.length≤i.i∧PW t.2) e58 fun t ht=>⟨Nat.le_of_eq ((hwd t ht).trans (hge.trans hn).symm),hpa t ht⟩)
      (by rw [hwa];exact XD (Q:=fun t=>∀ j,j<t.2.length→Bj (DD t.1 (AP ls) t.2 (u+1).toNat j) (WA (el (AP ls) j) (u+1).toNat (Qg t.2 j).toNat) (u+1).toNat∧∀ i,i<(Qg t.2 j).toNat→Bj (WA (el (AP ls) j) (u+1).toNat i) (el (AP ls) j) (u+1).toNat) e58 ho.mul)
      (fun j hj=>by rw [hwa,j7 hj,Iy,e58];exact ho.add j (by omega))) (fun c62=>?_)
     refine JK _ (fun w F hF h=>And.intro h.2.2.2.1 h.2.len) (fun h62p=>?_)
     obtain ⟨e62,l62⟩:=h62p
     rw [hwa,e58] at e62 l62
     refine QI rfl (fun w F hF ⟨⟨⟨⟨⟨⟨⟨⟨⟨⟨⟨⟨⟨⟨hGl,hP,hR,hA⟩,_⟩,_⟩,hs20⟩,_⟩,_⟩,_⟩,hs34⟩,_⟩,_⟩,hWs⟩,hrow⟩,h58⟩,h62⟩=>Wo hF (q:=c62.1.q) (n:=c62.1.n) (cap:=c62.1.cap) (ts:=c62.2) (by rw [e62];rw [hwa,e58] at h62;exact h62) hGl (XD e62 ho.pw) (XD (Q:=fun t=>JL t.1≤100000000) e62 ho.sz) (by rw [l62];exact ho.len)) (fun c63=>?_)
     rw [e62]
     refine QA (QM rfl rfl)<|QA (QM rfl rfl)<|JS_as rfl<|JS_as rfl<|JS_nt<|QT ?_
     exact JY (c63) rfl (.tmp rfl (.tmp rfl .nil)) (rfl) (fun F ⟨_,h63⟩=>h63)
end
section
open Go.RowKit Ig
structure Open (F:Fence):Prop where
 fn:∀ f,F.fn f
 depth:F.depth=none
 calls:∀ {n:Nat} {P:Program} {f:FuncId} {args:Array Value} {w:World} {R:Ending→World→Prop},Calls P f args w R→CallsIn F n P f args w R
 rows:∀ {n:Nat} {P:Program} {row:String} {args:Array Value} {w:World} {R:Value→World→Prop},Rows P row args w R→RowsIn F n P row args w R
theorem B3:Open Fence.wide where
 fn:=fun _=>trivial
 depth:=rfl
 calls:=fun h=>callsIn_wide.2 h
 rows:=fun h c cs _=>by
  obtain ⟨v,w',h1,h2⟩:=h c cs
  exact⟨v,w',h1,stepsIn_wide.2 h2⟩
theorem Xt (l:Nat):Open (Fence.wide.inRound l) where
 fn:=fun _=>trivial
 depth:=rfl
 calls:=fun h=>(callsIn_wide.2 h:CallsIn Fence.wide _ _ _ _ _ _)
 rows:=fun h=>B3.rows h
section
variable {F:Fence} {P:Program}
theorem Open.op (hF:Open F) {o:Oper} (hnd:∀ c,o.op≠.defer c) {a:Act} {w:World} {K K':Act→World→Prop} {Q1 Q:Exit→Act→World→Prop} (hp:∀ c a w,Q1 (.panic c) a w→Q (.panic c) a w) (hl:∀ a w,Q1 .outgrown a w→Q .outgrown a w) (hK:∀ a w,K a w→K' a w) (h:o.wp P a w K Q1):o.wpIn F 0 P a w K' Q:=by
 unfold Oper.wp at h
 unfold Oper.wpIn
 refine⟨fun f _=>hF.fn f,?_⟩
 rw [Oper.semAt_plain F a.eval o hnd]
 generalize (execOp a.eval o).run P w=r at *
 have hd:F.depth.isSome=true→1≤0:=fun e=>by rw [hF.depth] at e;cases e
 cases r with
 |ok x w' =>
  cases x<;>simp only [Oper.upon,Oper.uponIn] at h ⊢ <;>
   first
    |exact hK _ _ h
    |exact⟨hd,hF.calls (h.mono fun e w'' he=>by
      cases e with
      |returned u=>exact hK _ _ he
      |panicked c=>exact hp _ _ _ he
      |outgrown=>obtain ⟨a,w,h⟩:=he;exact⟨a,w,hl _ _ h⟩)⟩
    |exact⟨hd,hF.rows (h.mono fun _ _ he=>hK _ _ he)⟩
 |halt x w'=>cases x<;>simp only [Oper.upon,Oper.uponIn] at h ⊢<;>exact hp _ _ _ h
def WD (l:List Oper):Bool:=l.all fun o=>match o.op with | .defer _=>false | _=>true
theorem Mj {o:Oper} (h:(match o.op with | .defer _=>false | _=>true)=true):∀ c,o.op≠.defer c:=fun c e=>by rw [e] at h;cases h
theorem Open.list (hF:Open F) {ops:Array Oper} {Q:Exit→Act→World→Prop} (hQ:¬ LetsOut Q):∀ (l:List Oper) (a:Act) (w:World),WD l=true→wpList P ops Q l a w→wpListIn F 0 P ops Q l a w
 |[],_,_,_,h=>h
 |o::rest,a,w,hd,h=>by
  simp only [WD,List.all_cons,Bool.and_eq_true] at hd
  unfold wpList at h
  unfold wpListIn
  split
  ·rename_i hw
   rw [if_pos hw] at h
   rcases h with h | ⟨_,h⟩
   ·exact hF.op (Mj hd.1) (fun _ _ _ h=>h) (fun _ _ h=>h) (fun a w h=>hF.list hQ rest a w hd.2 h) h
   ·exact absurd h hQ
  ·rename_i hw
   rw [if_neg hw] at h
   exact⟨fun f _=>hF.fn f,hF.list hQ rest _ _ hd.2 h⟩
end
section
variable [Dr] [df:Df] {F:Fence} {P:Program} {Q:Exit→Act→World→Prop} {N:Nat} {m:Sl} {E:Env}
def JI (F:Fence) (P:Program) (c:Code) (Q:Exit→Act→World→Prop) (N:Nat) (m:Sl) (E:Env):Prop:=∀ a w,Jr N m a→St E w→c.wpIn F 0 P Q a w
theorem W9 {x y:Code} (h:JI F P x (Exit.then (y.wpIn F 0 P Q) Q) N m E):JI F P (.seq x y) Q N m E:=fun a w ha hw=>wpIn_seq (h a w ha hw)
theorem Tx {id:Nat} {c:Code} (h:JI F P c (Exit.inBlock id Q) N m E):JI F P (.block id c) Q N m E:=fun a w ha hw=>wpIn_block (h a w ha hw)
theorem qm (h:Fin Q .normal N m E):JI F P .skip Q N m E:=fun a w ha hw=>wpIn_skip (h a w ha hw)
theorem FD {c:Operand} {x y:Code} {t:Bool} (hc:ev m c=some (.bool t)) (ht:t=true→JI F P x Q N m E) (hf:t=false→JI F P y Q N m E):JI F P (.cond c x y) Q N m E :=
 fun a w ha hw=>wpIn_cond_split (ha.ev hc) (fun h=>ht h a w ha hw) (fun h=>hf h a w ha hw)
theorem ZL (hF:Open F) {id:Nat} {l:List Oper} (hQ:¬ LetsOut Q) (hd:WD l=true) (h:JS P l.toArray Q l N m E):JI F P (.region id l.toArray false) Q N m E :=
 fun a w ha hw=>wpIn_region_lit (hF.list hQ l a w hd (h a w ha hw))
theorem Vb {y:Code} (h:JI F P y Q N m E):Fin (Exit.then (y.wpIn F 0 P Q) Q) .normal N m E:=h
section
variable {w0:World} {F0:Gs} {bs:List (Nat×Obj)} {G:Gs→Prop} {l:Nat} {r:Loop} {f:Obj→List (Nat×Obj)}
theorem St.put {w:World} (h:St ⟨w0,F0,bs,G⟩ w) {b:Nat} {o:Obj} (o':Obj) (ho:Own bs b o f) (hn:∀ c fr,o'≠.cells c 248 fr):St ⟨w0,F0,f o',G⟩ (w.putObj b o'):=by
 obtain ⟨pre,post,e1,e2⟩:=ho.split
 subst e1
 rw [e2]
 exact h.write pre ⟨rfl,rfl,rfl,rfl,rfl⟩ hn
theorem FG {body:Code} {Qr:Exit→Act→World→Prop} (ho:Own bs l (.loop r) f) (hr:r.state = .ready) (k:JI F P body Qr N m ⟨w0,F0,f (.loop { r with state:=.busy }),G⟩) :
  Fin (Exit.then (fun a₁ w₁=>∃ w₂,(Instr.beginRound l).run P w₁ = .ok () w₂∧body.wpIn F 0 P Qr a₁ w₂) (fun _ _ _=>False)) .normal N m ⟨w0,F0,bs,G⟩ :=
 fun a w ha hw=>⟨_,run_beginRound (hw.own ho) hr,k a _ ha (hw.put _ ho (fun c fr e=>by cases e))⟩
theorem FF {R:Ending→World→Prop} (ho:Own bs l (.loop r) f) (k:∀ w,St ⟨w0,F0,f (.loop { r with state:=.ready,pending:=none }),G⟩ w→R (.returned (.bool true)) w):Fin (roundPost P l R) .normal N m ⟨w0,F0,bs,G⟩ :=
 fun a w ha hw=>⟨_,_,run_endRound none (hw.own ho),k _ (hw.put _ ho (fun c fr e=>by cases e))⟩
end
end
section
variable [Dr] {P:Program} {w0:World} {F0:Gs} {bs:List (Nat×Obj)} {G:Gs→Prop} {l:Nat} {r:Loop} {f:Obj→List (Nat×Obj)}
def RH (r:Loop) (vs:Array Value):Act:={ tmps:=(r.params.zip vs).foldl (fun tmps (t,a)=>tmps.setIfInBounds t a) r.tmps,defers:=[] }
theorem E9 {W:World} {vs:Array Value} {R:Ending→World→Prop} {N:Nat} {m:Sl} (hst:St ⟨w0,F0,bs,G⟩ W) (ho:Own bs l (.loop r) f) (hsz:vs.size=r.params.size) (hsl:Jr N m (RH r vs))
  (h:JI (Fence.wide.inRound l) P r.assign (Exit.then (fun a₁ w₁=>∃ w₂,(Instr.beginRound l).run P w₁ = .ok () w₂∧r.body.wpIn (Fence.wide.inRound l) 0 P (roundPost P l R) a₁ w₂) (fun _ _ _=>False)) N m ⟨w0,F0,bs,G⟩) :
  YieldAt Fence.wide 0 P l vs W R :=
 ⟨_,_,_,_,run_yield (hst.own ho) hsz,roundIn_of_wpIn trivial (h _ W hsl hst)⟩
end
section
variable [Dr] [df:Df] {P:Program} {Q:Exit→Act→World→Prop} {N:Nat} {m:Sl} {E E0:Env} {ops:Array Oper} {l:List Oper} {w0:World} {F0:Gs} {bs:List (Nat×Obj)} {G:Gs→Prop}
def gN (P:Program) (ops:Array Oper) (Q:Exit→Act→World→Prop) (l:List Oper) (N:Nat) (m:Sl) (E:Env):Prop:=∀ a w,Jr N m a→St E w→wpListIn Fence.wide 0 P ops Q l a w
theorem zM (hQ:¬ LetsOut Q) (hd:WD l=true) (h:JS P ops Q l N m E):gN P ops Q l N m E:=fun a w ha hw=>B3.list hQ l a w hd (h a w ha hw)
theorem Ia {x:Operand} {d r:Nat} {args:Array Operand} {tys:Array TypeId} {vs:List Value} {ty:TypeId} {pos:String} {aft:Array Edge} {ι:Type} {E':ι→Env} (hx:ev m x=some (.func (.yield r) #[] #[])) (hv:EE m args.toList=some vs)
  (hy:∀ w,St E w→YieldAt Fence.wide 0 P r vs.toArray w fun e w'=>e = .returned (.bool true)∧∃ s,St (E' s) w')
  (k:∀ s,gN P ops Q l N ((d,.bool true)::m) (E' s)) (hd:J0 N (some d)=true:=by rfl):gN P ops Q (⟨some d,.call ⟨.value x,args,tys⟩,ty,pos,aft,none⟩::l) N m E:=by
 intro a w ha hw
 refine wpListIn_plain rfl fun K hK=>?_
 obtain ⟨fn,tmps,assign,body,hr,hR⟩:=hy w hw
 refine⟨fun f _=>trivial,?_⟩
 have e2:args.map a.eval=vs.toArray:=by rw [← ha.EE hv];apply Array.ext';simp
 have hrun:(execOp a.eval ⟨some d,.call ⟨.value x,args,tys⟩,ty,pos,aft,none⟩).run P w = .ok (.round r fn tmps assign body) w:=by
  simp only [execOp,resolve,ha.ev hx,Deferred.ofValue,Sem.run_bind,Sem.run_pure,Result.andThen_ok,invoke,e2]
  simpa using hr
 rw [Oper.semAt_plain Fence.wide a.eval _ (fun c e=>by cases e),hrun]
 refine⟨fun e=>(by cases e),hR.mono ?_⟩
 rintro e w' ⟨rfl,s,hs⟩
 exact hK _ _ (k s _ w' (ha.put hd (.bool true)) hs)
theorem Ow {ops':Array Oper} {l':List Oper} (h:gN P ops' Q l' N m E):JD P ops (Xd (fun a w=>wpListIn Fence.wide 0 P ops' Q l' a w)) E0 [] N m E:=fun _=>h
section
variable {md:Region.Mode}
theorem UD {l:List Oper} {n i:Nat} {K0 K:Act→World→Prop} {a:Act} {w:World} (hi:i<n) (hgd:BO l.toArray n=true) (hnd:WD l=true)
  (h:wpOp P (l.take n).toArray (Xd K0) i K a w):wpOpIn Fence.wide 0 P l.toArray Q i K a w:=by
 unfold wpOp at h
 unfold wpOpIn
 rw [Wx hi] at h
 cases ho:l.toArray[i]? with
 |none=>simp only [ho] at h ⊢;exact h
 |some o =>
  simp only [ho] at h ⊢
  have hw:Region.wanted o (yielded (l.take n).toArray a.tmps)=Region.wanted o (yielded l.toArray a.tmps):=by
   have h1:=List.all_eq_true.1 hgd i (List.mem_range.2 hi)
   rw [ho] at h1
   unfold Region.wanted
   cases hg:o.guard with
   |none=>rfl
   |some gw =>
    obtain ⟨g,want⟩:=gw
    simp only [hg] at h1
    simp only [Hr (l:=l) (by simpa using h1)]
  rw [hw] at h
  have hmem:o∈l:=by
   have:l[i]?=some o:=by simpa using ho
   exact List.mem_of_getElem? this
  split
  ·rename_i hw2
   rw [if_pos hw2] at h
   rcases h with h | ⟨_,h2⟩
   ·exact B3.op (Mj (List.all_eq_true.1 hnd o hmem)) (fun _ _ _ h=>h.elim) (fun _ _ h=>h.elim) (fun _ _ h=>h) h
   ·obtain ⟨_,_,h2⟩:=h2;exact h2.elim
  ·rename_i hw2
   rw [if_neg hw2] at h;exact⟨fun _ _=>trivial,h⟩
theorem Hs {ops:Array Oper}:∀ (f:Nat) (listed:Array Bool) (a:Act) (w:World),wpAnyIn Fence.wide 0 P md ops Q f listed a w→wpAnyIn Fence.wide 0 P md ops Q (f+1) listed a w
 |0,listed,a,w,h=>⟨fun _=>h.2,fun i hi=>(by rw [h.1] at hi;cases hi)⟩
 |f+1,listed,a,w,h=>⟨h.1,fun i hi=>wpOpIn_mono (fun a' w' h'=>Hs f _ a' w' h') (h.2 i hi)⟩
theorem Nh {ops:Array Oper} (f:Nat) (listed:Array Bool) (a:Act) (w:World) (g:Nat) (h:wpAnyIn Fence.wide 0 P md ops Q g listed a w):wpAnyIn Fence.wide 0 P md ops Q (f+g) listed a w:=by
 induction f with
 |zero=>rw [Nat.zero_add];exact h
 |succ f ih=>rw [show f+1+g=(f+g)+1 by omega];exact Hs _ _ _ _ ih
theorem Wh:∀ (l:List Oper) (k:Nat) (listed:Array Bool) (a:Act) (w:World),(∀ j,l[j]?=ops[k+j]?) →
  Region.seqB md ops l.length k listed=true→wpListIn Fence.wide 0 P ops Q l a w→wpAnyIn Fence.wide 0 P md ops Q l.length listed a w
 |[],_,_,_,_,_,hB,h=>⟨by simpa [Region.seqB] using hB,h⟩
 |o::l,k,listed,a,w,hl,hB,h=>by
  have h0:ops[k]?=some o:=by simpa using (hl 0).symm
  simp only [List.length_cons,Region.seqB,Bool.and_eq_true,decide_eq_true_eq] at hB
  refine⟨fun h1=>(by rw [hB.1] at h1;cases h1),fun i hi=>?_⟩
  rw [hB.1] at hi
  have hik:i=k:=by simpa using hi
  subst hik
  have hw:wpOpIn Fence.wide 0 P ops Q i (wpListIn Fence.wide 0 P ops Q l) a w:=by unfold wpOpIn;simp only [h0];exact h
  exact wpOpIn_mono (fun a' w' h'=>Wh l (i+1) _ a' w' (fun j=>by have:=hl (j+1);simpa [Nat.add_assoc,Nat.add_comm 1 j] using this) hB.2 h') hw
theorem Ng {l:List Oper} {n:Nat} (hn:n<l.length) (hs:Region.sinkB md l.toArray n=true) (hc:Region.chainB md l.toArray n=true) (ho:KC md l.toArray n=true)
  (hgd:BO l.toArray n=true) (hseq:Region.seqB md l.toArray (l.length - n) n (Zq n l.length)=true) (hnd:WD l=true) :
  ∀ (f:Nat) (lh la:Array Bool) (a:Act) (w:World),HeadInv md l.toArray n la→lh.size=n→(∀ i,i<n→la.getD i true=lh.getD i true) →
   wpAny P md (l.take n).toArray (Xd (fun a w=>wpListIn Fence.wide 0 P l.toArray Q (l.drop n) a w)) f lh a w→wpAnyIn Fence.wide 0 P md l.toArray Q (f+(l.length - n)) la a w:=by
 have fin:∀ (f:Nat) (lh la:Array Bool) (a:Act) (w:World),HeadInv md l.toArray n la→lh.size=n→(∀ i,i<n→la.getD i true=lh.getD i true) →
   Region.ready md (l.take n).toArray lh=[]→wpListIn Fence.wide 0 P l.toArray Q (l.drop n) a w→wpAnyIn Fence.wide 0 P md l.toArray Q (f+(l.length - n)) la a w:=by
  intro f lh la a w inv hsz hrel hr h
  have hall:∀ i,i<n→lh.getD i true=true:=by
   intro i hi
   cases hv:lh.getD i true with
   |true=>rfl
   |false=>exact absurd hr (V4 hn hs hc ho inv hsz hrel hi hv).2
  have hla:la=Zq n l.length:=by
   refine Dq (by simpa using inv.size) (fun i hi hi2=>?_) (fun i hi hi2=>?_)
   ·have h1:=(hrel i hi).trans (hall i hi)
    have h2:i<la.size:=by rw [inv.size];simpa using hi2
    simp [h2] at h1 ⊢;exact h1
   ·exact getD_both (inv.tail i hi (by simpa using hi2))
  subst hla
  refine Nh f _ _ _ _ ?_
  have:=Wh (P:=P) (Q:=Q) (md:=md) (ops:=l.toArray) (l.drop n) n (Zq n l.length) a w (fun j=>by simp [List.getElem?_drop]) (by simpa using hseq) h
  simpa using this
 intro f
 induction f with
 |zero=>intro lh la a w inv hsz hrel h;exact fin 0 lh la a w inv hsz hrel h.1 h.2
 |succ f ih =>
  intro lh la a w inv hsz hrel h
  by_cases hr:Region.ready md (l.take n).toArray lh=[]
  ·exact fin (f+1) lh la a w inv hsz hrel hr (h.1 hr)
  ·obtain ⟨k,hk⟩:=List.exists_mem_of_ne_nil _ hr
   have hk2:=(mem_ready.1 hk)
   have hkn:k<n:=by
    obtain ⟨_,o,ho',_⟩:=hk2
    have:=(Array.getElem?_eq_some_iff.1 ho').1
    simp at this;omega
   have hiff:=(V4 hn hs hc ho inv hsz hrel hkn hk2.1).1
   rw [show f+1+(l.length - n)=(f+(l.length - n))+1 by omega]
   refine⟨fun h0=>absurd ((hiff k).2 hk) (by rw [h0];simp),fun i hi=>?_⟩
   have hi':=(hiff i).1 hi
   have hin:i<n:=by
    obtain ⟨_,o,ho',_⟩:=mem_ready.1 hi'
    have:=(Array.getElem?_eq_some_iff.1 ho').1
    simp at this;omega
   have h2:=UD (Q:=Q) hin hgd hnd (h.2 i hi')
   refine wpOpIn_mono (fun a' w' h3=>ih _ _ a' w' (inv.set hi hin) (by simpa using hsz) (fun j hj=>?_) h3) h2
   by_cases hij:i=j
   ·subst hij
    have h1:i<la.size:=by rw [inv.size];simp;omega
    have h2:i<lh.size:=by omega
    simp [h1,h2]
   ·rw [getD_set_ne true hij,getD_set_ne true hij];exact hrel j hj
theorem R7 {id:Nat} {l:List Oper} {bs0:List (Nat×Obj)} (n:Nat) (hb0:bs0.Sublist bs) (hm:P.follows .mixedOrders=true) (hB:G6 l n=true) (hB2:lexB .any (l.take n)=true) (hnd:WD l=true)
  (h:JD P (l.take n).toArray (Xd (fun a w=>wpListIn Fence.wide 0 P l.toArray Q (l.drop n) a w)) ⟨w0,F0,bs0,G⟩ (l.take n) N m ⟨w0,F0,bs,G⟩):J P (.region id l.toArray true) Q N m ⟨w0,F0,bs,G⟩:=fun a w ha hw=>by
 have h1:=h (fun _ h=>h.imp hb0 fun _ h=>h) a _ ha hw.drew
 have h2:=Vd (P:=P) (S:=St ⟨w0,F0,bs0,G⟩) hB2 (fun c a w h=>h) (hw.drew.imp hb0 fun _ h=>h) h1
 simp only [G6,Bool.and_eq_true,decide_eq_true_eq] at hB
 obtain ⟨⟨⟨⟨⟨hn,hs⟩,hc⟩,ho⟩,hg⟩,hseq⟩:=hB
 refine(wpIn_wide (n:=0)).1 (wpIn_region_any hm ?_)
 have inv0:HeadInv .any l.toArray n (Array.replicate l.toArray.size false) :=
  ⟨by simp,fun j oj _ hl=>(by rw [getD_replicate_false] at hl;cases hl),fun t _ ht=>getD_in (by simpa using ht) (getD_replicate_false _ _)⟩
 have e:(l.take n).length=n:=by simp;omega
 rw [e] at h2
 have:=Ng (P:=P) (md:=.any) (Q:=Q) hn hs hc ho hg hseq hnd n (Array.replicate n false) (Array.replicate l.toArray.size false) a { w with drawn:=w.drawn+1 } inv0 (by simp)
  (fun i hi=>by
   have h1:i<l.length:=(by omega)
   simp [hi,h1]) h2
 rw [show n+(l.length - n)=l.toArray.size by simp;omega] at this
 exact this
end
end
section
variable [Dr] {P:Program} {Q:Exit→Act→World→Prop} {N:Nat} {m:Sl} {w0:World} {F0:Gs} {bs:List (Nat×Obj)} {G:Gs→Prop}
@[reducible] def Ha (D:Nat):Df:=⟨[{ target:=.collected D,args:=#[] }]⟩
structure Ov (N:Nat) (m:Sl) (ps:Array Tmp) (assign body:Code) (r:Loop):Prop where
 state:r.state = .ready
 pM:r.pending=none
 params:r.params=ps
 assign:r.assign=assign
 body:r.body=body
 yv:Jr (df:=K6) N m { tmps:=r.tmps,defers:=[] }
theorem Tv {g:Operand} {ps:Array Tmp} {assign body:Code} {gf:Nat} {lb:Array Value} {ι:Type} (B:ι→List (Nat×Obj)) (R:ι→Gs→Prop) (Dn:ι→Prop) (hg:ev m g=some (.func (.func gf) #[] lb)) (he:Enters P gf)
  (hcall:∀ (L D:Nat) (r:Loop) (w:World),Ov N m ps assign body r→St ⟨w0,F0,(L,.loop r)::(D,.deferred (some []))::bs,G⟩ w →
   Calls P gf (#[.func (.yield L) #[] #[]]++lb) w fun e w'=>(∃ v,e = .returned v)∧∃ s,Dn s∧St ⟨w0,F0,(L,.loop r)::(D,.deferred (some []))::B s,fun F=>G F∧R s F⟩ w')
  (k:∀ D s,Dn s→Fin (df:=Ha D) Q .normal N m ⟨w0,F0,(D,.deferred (some []))::B s,fun F=>G F∧R s F⟩):J (df:=K6) P (.rangeFunc g ps assign body) Q N m ⟨w0,F0,bs,G⟩:=fun a w ha hw=>by
 refine(wpIn_wide (n:=0)).1 (wpIn_rangeFunc fun fn _=>?_)
 obtain ⟨r,hr⟩:∃ r:Loop,r={ state:=.ready,pending:=none,fn,tmps:=a.tmps,params:=ps,assign,body,defers:=w.heap.size }:=⟨_,rfl⟩
 have hs1:St ⟨w0,F0,(w.heap.size+1,.loop r)::(w.heap.size,.deferred (some []))::bs,G⟩ ((w.alloc (.deferred (some []))).alloc (.loop r)):=by
  have h1:=hw.alloc (.deferred (some [])) (fun c fr e=>by cases e)
  have h2:=h1.alloc (.loop r) (fun c fr e=>by cases e)
  rwa [World.size_alloc] at h2
 have hd:a.defers=[]:=ha.df
 refine⟨w.heap.size+1,[{ target:=.collected w.heap.size,args:=#[] }],(w.alloc (.deferred (some []))).alloc (.loop r),{ target:=.fn (.func gf) lb,args:=#[.func (.yield (w.heap.size+1)) #[] #[]] },(w.alloc (.deferred (some []))).alloc (.loop r),gf,
  #[.func (.yield (w.heap.size+1)) #[] #[]]++lb,(w.alloc (.deferred (some []))).alloc (.loop r),?_,?_,fun _ _=>trivial,?_,fun e=>(by cases e),?_⟩
 ·rw [hr];exact run_enterLoop_outer _ _ _ _ _
 ·simp only [resolve,ha.ev hg]
  simp [go_sem]
 ·simpa [invoke,go_sem] using he _ _
 ·refine(callsIn_wide.2 (hcall _ _ r _ ⟨by rw [hr],by rw [hr],by rw [hr],by rw [hr],by rw [hr],⟨by rw [hr];exact ha.size,rfl,by rw [hr];exact ha.get⟩⟩ hs1)).mono ?_
  rintro e w' ⟨⟨v,rfl⟩,s,hdn,hs⟩
  have hl:w'.heap[w.heap.size+1]?=some (.loop r):=hs.own .here
  refine⟨none,w'.putObj (w.heap.size+1) (.loop { r with state:=.exhausted }),?_,k w.heap.size s hdn _ _ (Jr.mk (df:=Ha w.heap.size) (Jr.size (df:=K6) (a:=a) ha) ?_ (fun t v h=>Jr.get (df:=K6) (a:=a) ha t v h)) ?_⟩
  ·rw [run_endLoop hl (by rw [hr];intro e;cases e)]
   rw [hr]
  ·show _++a.defers=_
   rw [hd];rfl
  ·exact(hs.put (.loop { r with state:=.exhausted }) .here (fun c fr e=>by cases e)).imp (.cons _ subl_r) fun _ h=>h
theorem vG {c:Code} (h:∀ G':Gs→Prop,(∀ F,G' F→G F)→J (df:=K6) P c Q N m ⟨w0,F0,bs,G'⟩):J (df:=K6) P c Q N m ⟨w0,F0,bs,G⟩:=h G fun _ h=>h
theorem QS.xk {f:FuncId} {fn:Func} {c:Code} {args:List Value} {w:World} {F:Gs} {γ:Type} {val:γ→Value} {fact:γ→Gs→Prop} {G:Gs→Prop} (hf:P.funcs[f]?=some fn) (hb:fn.body=some c) (hn:(fn.name == "runtime.NumGoroutine")=false) (hN:fn.ntmps=N) (hl:Nat.ble args.length N=true)
  (hw:Fits F w) (hg:∀ F',Gs.le F F'→G F') (h:J (df:=K6) P c (bodyPostM Fence.wide 0 P fn (D8 w F val fact)) N (NK 0 args) ⟨w,F,[],G⟩):QS P f args w F val fact:=by
 refine⟨enters_of hf hn (by rw [hb];rfl),callsIn_wide.1 (callsIn_of_wp_marks hf hb trivial (wpIn_wide.2 (h _ w ⟨?_,rfl,fun t v ht=>?_⟩ (St.start hw hg))))⟩
 ·have:=Nat.le_of_ble_eq_true hl
  simp [hN];omega
 ·obtain ⟨_,h2⟩:=WE args 0 t v ht
  have hlt:t<args.length:=by rcases Nat.lt_or_ge t args.length with g | g;exact g;rw [Nat.sub_zero,List.getElem?_eq_none g] at h2;cases h2
  simp only [Nat.sub_zero] at h2
  rw [Array.getElem?_append,if_pos (by simpa using hlt)]
  simpa using h2
theorem Ox {fn:Func} {R:Ending→World→Prop} {E:Env} (h:Fin (df:=K6) (bodyPost P fn R) .ret N m E):Fin (df:=K6) (bodyPostM Fence.wide 0 P fn R) .ret N m E:=fun a w ha hw=>by
 obtain ⟨h1,v,h2,h3⟩:=h a w ha hw
 show LeavesInM Fence.wide 0 P fn a.tmps R a.defers .returning w
 rw [h1]
 exact⟨v,h2,h3⟩
theorem zO {fn:Func} {R:Ending→World→Prop} {D:Nat} {f:Obj→List (Nat×Obj)} (ho:Own bs D (.deferred (some [])) f) (h:Fin (df:=K6) (bodyPost P fn R) .ret N m ⟨w0,F0,f (.deferred none),G⟩):Fin (df:=Ha D) (bodyPostM Fence.wide 0 P fn R) .ret N m ⟨w0,F0,bs,G⟩:=fun a w ha hw=>by
 have h1:=h { tmps:=a.tmps,defers:=[] } _ (Jr.mk (df:=K6) (Jr.size (df:=Ha D) (a:=a) ha) rfl (fun t v h=>Jr.get (df:=Ha D) (a:=a) ha t v h)) (hw.put (.deferred none) ho (fun c fr e=>by cases e))
 obtain ⟨_,v,h2,h3⟩:=h1
 show LeavesInM Fence.wide 0 P fn a.tmps R a.defers .returning w
 rw [show a.defers=[{ target:=.collected D,args:=#[] }] from Jr.df (df:=Ha D) ha]
 exact⟨fun e=>(by cases e),.inl ⟨D,_,rfl,run_takeDeferred (hw.own ho),v,h2,h3⟩⟩
end
end
section
open Go.RowKit Ig
abbrev qt (n:Nat):={ l:List Int // l.length=n }
def VD {n:Nat} (x:qt n):Value:=.agg (x.1.map Qx).toArray
theorem qd {a b:List Int} {n:Nat} (ha:a.length=n) (hb:b.length=n):((List.range n).all fun j=>Qg a j==Qg b j)=decide (a=b):=by
 rw [Bool.eq_iff_iff,decide_eq_true_iff,List.all_eq_true]
 constructor
 ·intro h
  apply List.ext_getElem (by omega)
  intro i h1 h2
  have:=h i (List.mem_range.2 (by omega))
  simpa [Qg,h1,h2] using this
 ·intro h j _;rw [h];simp
section
variable {P:Program} {e:TypeId}
theorem Me (he:P.underlying e=some (.int .i64)) (w:World) {xs:List Int} {j:Nat} (h:j<xs.length):(part e (xs.map Qx).toArray j).run P w = .ok (Qx (Qg xs j)) w:=by
 have e1:(xs.map Qx).toArray[j]?=some (Qx (Qg xs j)):=by simp [h,Qg]
 simp [part,isAgg,run_underlying he,e1]
theorem eqItems_ints (he:P.underlying e=some (.int .i64)) (w:World) (d:Nat) {xs ys:List Int}:∀ (is:List Nat),(∀ j∈is,j<xs.length∧j<ys.length) →
  (Op.eqItems (d+1) e 1 (xs.map Qx).toArray (ys.map Qx).toArray is).run P w = .ok (is.all fun j=>Qg xs j==Qg ys j) w
 |[],_=>by simp [Op.eqItems]
 |j::is,h=>by
  have h1:=h j (by simp)
  simp only [Op.eqItems,Sem.run_bind,Nat.mul_one,Me he w h1.1,Me he w h1.2,Result.andThen_ok]
  rw [show Qx (Qg xs j) = .int .i64 (Qg xs j) from rfl,show Qx (Qg ys j) = .int .i64 (Qg ys j) from rfl,run_equalIn_int w d e .i64 .i64 _ _ he]
  simp only [Result.andThen_ok,List.all_cons]
  cases Qg xs j==Qg ys j
  ·simp
  ·simpa using eqItems_ints he w d is fun j hj=>h j (by simp [hj])
theorem equal_arr {kt:TypeId} {n:Nat} (hu:P.underlying kt=some (.array n e)) (he:P.underlying e=some (.int .i64)) (hc:P.cellsOf e=1) (w:World) (a b:qt n):(Op.equal kt (VD a) (VD b)).run P w = .ok (decide (a=b)) w:=by
 obtain ⟨i,hi⟩:=info_of_underlying he
 unfold VD
 show(Op.equalIn (9999+1) kt _ _).run P w=_
 rw [run_equalIn_array w 9999 _ _ hu hi,hc,eqItems_ints he w 9998 _ (fun j hj=>⟨by rw [a.2];exact List.mem_range.1 hj,by rw [b.2];exact List.mem_range.1 hj⟩),qd a.2 b.2]
 congr 1
 simp [Subtype.ext_iff]
theorem Dt {kt:TypeId} {n:Nat} (hu:P.underlying kt=some (.array n e)) (he:P.underlying e=some (.int .i64)) (hc:P.cellsOf e=1) (w:World) (k:qt n):∀ (l:List (qt n×Value)) (m i:Nat),
  (Instr.findAsking kt (VD k) (XK VD l m) i).run P w = .ok (Zs l k i) w
 |[],_,_=>by simp [XK,Instr.findAsking,Zs]
 |x::l,m,i=>by
  simp only [XK,Instr.findAsking,Sem.run_bind,equal_arr hu he hc,Result.andThen_ok,Zs]
  by_cases h:k=x.1
  ·simp [h]
  ·simp [h,Dt hu he hc w k l]
theorem II {kt:TypeId} {n:Nat} (hu:P.underlying kt=some (.array n e)) (he:P.underlying e=some (.int .i64)) (hc:P.cellsOf e=1) (em:Bool) (w:World) (k:qt n):(Instr.checkKey em 10000 kt (VD k)).run P w = .ok () w:=by
 obtain ⟨i,hi⟩:=info_of_underlying he
 rw [show 10000=9999+1 from rfl,Instr.checkKey]
 unfold VD
 simp only [Sem.run_bind,run_underlying hu,Result.andThen_ok]
 simp only [Std.Legacy.Range.forIn_eq_forIn_range',Std.Legacy.Range.size,Nat.sub_zero,Nat.add_one_sub_one,Nat.div_one]
 have hj:∀ j∈List.range' 0 n,j<k.1.length:=fun j hj=>by rw [k.2];simpa using hj
 generalize List.range' 0 n=is at hj
 induction is with
 |nil=>simp
 |cons j is ih =>
  have p2:(Instr.checkKey em 9999 e (Qx (Qg k.1 j))).run P w = .ok () w:=MapKept.run_checkKey he (by simp [MapKept.IsKey,Qx]) em 9998
  simp only [List.forIn_cons,Sem.run_bind,run_sizeOf w hi,Result.andThen_ok,hc,Nat.mul_one,Me he w (hj j (by simp)),p2,Sem.run_pure]
  exact ih fun j hj'=>hj j (by simp [hj'])
theorem LI {n:Nat} (k:qt n):Instr.sameBits 10000 (VD k) (VD k)=true:=by
 unfold VD
 rw [show 10000=9999+1 from rfl,Instr.sameBits]
 simp only [beq_self_eq_true,Bool.true_and,List.all_eq_true]
 intro x hx
 obtain ⟨l,hl⟩:=k
 simp only at hx
 have:∀ (l:List Int) (x:Value×Value),x∈(l.map Qx).zip (l.map Qx)→Instr.sameBits 9999 x.1 x.2=true:=by
  intro l
  induction l with
  |nil=>intro x hx;cases hx
  |cons a l ih =>
   intro x hx
   rw [List.map_cons,List.zip_cons_cons] at hx
   rcases List.mem_cons.1 hx with rfl | hx
   ·simp [Qx,Instr.sameBits]
   ·exact ih x hx
 exact this l x hx
theorem R6.arr {kt:TypeId} {n:Nat} (hu:P.underlying kt=some (.array n e)) (he:P.underlying e=some (.int .i64)) (hc:P.cellsOf e=1):R6 P kt (VD (n:=n)) where
 yP:=fun em w k=>II hu he hc em w k
 find:=fun w k l=>by
  cases l with
  |nil=>simp [Instr.findKey,run_underlying hu,XK,Instr.findNow,Zs]
  |cons x l =>
   have:Instr.findNow (.array n e) (VD k) (XK VD (x::l) 0) 0=none:=by simp [XK,Instr.findNow,Instr.sameNow]
   simp only [Instr.findKey,Sem.run_bind,run_underlying hu,Result.andThen_ok,this]
   exact Dt hu he hc w k (x::l) 0 0
 same:=LI
theorem equal_txs {t:TypeId} {f1 f2:Field} (ht:P.underlying t=some (.struct (P.fieldsOf t))) (hp:P.stoodInHeld t=false) (hf:(P.fieldsOf t).toList=[f1,f2]) (h1:f1.name ≠ "_" ∧ f1.offset=0∧P.underlying f1.type=some .string) (h2:f2.name ≠ "_" ∧ f2.offset=1∧P.underlying f2.type=some .string) (w:World) (a b c d:List UInt8) :
  (Op.equal t (.agg #[tx a,tx b]) (.agg #[tx c,tx d])).run P w = .ok (decide (a=c)&&decide (b=d)) w:=by
 have hs:∀ (f:TypeId),P.underlying f=some .string→∀ x y:List UInt8,(Op.equalIn 9999 f (tx x) (tx y)).run P w = .ok (decide (x=y)) w:=fun f hf x y=>by
  rw [show(9999:Nat)=9998+1 from rfl,show tx x = .string ⟨x.toArray⟩ from rfl,show tx y = .string ⟨y.toArray⟩ from rfl,run_equalIn_string w 9998 f _ _ hf]
  congr 1
  rw [ByteArray.toList_eq,ByteArray.toList_eq,Bool.eq_iff_iff]
  simp
 show(Op.equalIn (9999+1) t _ _).run P w=_
 rw [run_equalIn_struct w 9999 t _ _ ht hp,hf]
 have p1:∀ x y:List UInt8,(part f1.type #[tx x,tx y] 0).run P w = .ok (tx x) w:=fun x y=>by simp [part,isAgg,run_underlying h1.2.2]
 have p2:∀ x y:List UInt8,(part f2.type #[tx x,tx y] 1).run P w = .ok (tx y) w:=fun x y=>by simp [part,isAgg,run_underlying h2.2.2]
 simp only [Op.eqFields,h1.1,h2.1,h1.2.1,h2.2.1,ne_eq,not_false_eq_true,if_true,Sem.run_bind,p1,p2,hs f1.type h1.2.2,hs f2.type h2.2.2,Result.andThen_ok]
 by_cases e1:a=c<;>by_cases e2:b=d<;>simp [e1,e2,p2,hs f2.type h2.2.2]
end
end
section
open Go.RowKit Ig
def kj (P:Program) (T:TypeId):Option (Nat×TypeId):=match P.underlying T with | some (.array n e)=>some (n,e) | _=>none
theorem jv {P:Program} {T e:TypeId} {n:Nat} (h:kj P T=some (n,e)):P.underlying T=some (.array n e):=by
 unfold kj at h
 split at h
 ·rename_i hu;cases h;exact hu
 ·cases h
section
variable [Dr] [df:Df] {P:Program} {N:Nat} {m:Sl} {S:World→Prop} {ty:TypeId}
theorem Le {T e:TypeId} {x y:Operand} {b off n sz i:Nat} {g:Bool} (hx:ev m x=some (.pointer (some ⟨b,off,none⟩))) (hy:ev m y=some (.int .i64 (i:Int))) (hT:kj P T=some (n,e)) (hs:Z9 P e=some (g,sz)) (hi:i<n):Qt P N m S (.indexAddr T x y) ty (.pointer (some ⟨b,off+i*sz,none⟩)):=fun a w _ _ _ _ ha _=>by
 simp [execOp,ha.ev hx,ha.ev hy,Instr.indexAt,asIntOf,Instr.sureAddr,run_underlying (jv hT),YA hs,hi,VE]
theorem UZ {T e:TypeId} {x y:Operand} {b n sz h:Nat} {g:Bool} (hx:ev m x=some (.pointer (some ⟨b,0,none⟩))) (hy:ev m y=some (.int .i64 (h:Int))) (hT:kj P T=some (n,e)) (hs:Z9 P e=some (g,sz)) (hh:h≤n):Qt P N m S (.slice T x none (some y) none) ty (.slice (some ⟨b,0,none⟩) h n):=fun a w _ _ _ _ ha _=>by
 simp [execOp,ha.ev hx,ha.ev hy,Instr.sliceAt,asIntOf,Instr.sureAddr,Instr.sliceBounds,Instr.sliceBound,run_underlying (jv hT),YA hs,hh,VE]
end
theorem Oj:kj Tryz.prog 160=some (25,3):=by kernel_rfl
def Z4 (l:List Int):qt 25:=⟨(List.range 25).map (Qg l),by simp⟩
def Gu (a b:List Int) (i:Nat):List Int:=(List.range 25).map fun j=>if j<i then Qg a j+Qg b j else 0
theorem Ft {a b:List Int} {i:Nat} (h:i<25):(Gu a b i).set i (Qg a i+Qg b i)=Gu a b (i+1):=by
 unfold Gu
 apply List.ext_getElem (by simp)
 intro j h1 h2
 simp only [List.length_set,List.length_map,List.length_range] at h1
 rw [List.getElem_set]
 simp only [List.getElem_map,List.getElem_range]
 split
 ·rename_i e;subst e;simp
 ·rename_i e
  by_cases g:j<i
  ·simp [g,show j<i+1 by omega]
  ·simp [g,show ¬ j<i+1 by omega]
theorem Fu {a b:List Int} {n:Nat} (ha:a.length=n) (hb:b.length=n):Gu a b n=(Z4 (Xj a b)).1:=by
 unfold Gu Z4
 apply List.map_congr_left
 intro j hj
 split
 ·rename_i g
  simp [Qg,Xj,ha,hb,g]
 ·rename_i g
  simp [Qg,Xj,ha,hb,g]
theorem CZ {a b:List Int} {i:Nat} (h:i<25):Kt ((Gu a b i).map Qx) (0+i*1) [.int .i64 (Qg a i+Qg b i)] ((Gu a b (i+1)).map Qx):=by
 have h1:=Kt.yw (l:=(Gu a b i).map Qx) (n:=0+i*1) (.int .i64 (Qg a i+Qg b i)) (by simp [Gu];omega)
 rw [← Ft h,List.map_set]
 simpa [Qx] using h1
structure pZ {ι:Type} (pos:ι→Nat) (n m:Nat) where
 i:Nat
 s:ι
 le:i≤n
 hp:pos s=i*m
structure pY {ι:Type} (pos:ι→Nat) (n m i:Nat) where
 j:Nat
 s:ι
 le:j≤m
 hp:pos s=i*m+j
structure pX (n:Nat) where
 k:Nat
 le:k≤n
theorem Ss {ι:Type} {w0:World} {F0:Gs} {B:ι→List (Nat×Obj)} {H:ι→Gs→Prop} {pos:ι→Nat} {p q:Wd} {b1 b2 L n:Nat}
  (hH:∀ s F,H s F→F b1=some (#[p.1.v],157)∧F b2=some (#[q.1.v],157)∧Jm F p.1 p.2 (JF p.2)∧Jm F q.1 q.2 (JF q.2)) (hPn:p.2.length=p.1.n∧q.2.length=q.1.n)
  (hw:(∀ t∈p.2,t.t.2.length=n∧t.r.n=n∧PW t.t.2)∧∀ t∈q.2,t.t.2.length=n∧t.r.n=n∧PW t.t.2) (hn:n≤25) (hl:p.2.length≤1000000∧q.2.length≤1000000) (hz:(∀ t∈p.2,JL t.t.1≤20000000)∧∀ t∈q.2,JL t.t.1≤20000000)
  (hround:∀ (G:Gs→Prop) (C:List (Nat×Obj)) (s:ι) (i j:Nat) (x:Fr) (W:World),i<p.2.length→j<q.2.length→pos s=i*q.2.length+j →
   St ⟨w0,F0,B s++C,fun F=>(G F∧H s F)∧JW F x ((el p.2 i).t.1*(el q.2 j).t.1)⟩ W→YieldAt Fence.wide 0 Tryz.prog L #[VD (Z4 (Xj (el p.2 i).t.2 (el q.2 j).t.2)),x.v] W fun e W'=>e = .returned (.bool true)∧∃ s',pos s'=pos s+1∧St ⟨w0,F0,B s'++C,fun F=>G F∧H s' F⟩ W')
  (s0:ι) (h0:pos s0=0) :
  J5 Tryz.prog 209 [.func (.yield L) #[] #[],.pointer (some ⟨b1,0,none⟩),.pointer (some ⟨b2,0,none⟩)] ⟨w0,F0,B s0,H s0⟩ (fun(_:{ s:ι // pos s=p.2.length*q.2.length })=>.tuple #[]) (fun s=>⟨w0,F0,B s.1,H s.1⟩):=by
 have hpn:p.2.length=p.1.n:=hPn.1
 have hqn:q.2.length=q.1.n:=hPn.2
 refine J5.intro Tryz.func209 rfl (by rfl) rfl rfl<|J_sr<|QA (Ma (c:=#[p.1.v]) (T':=157) rfl Vz (fun F hs0=>(hH _ _ hs0).1) rfl)<|QA (Ql rfl J1)<|JS_mv rfl<|JS_nt<|Qa<|Jz (ι:=pZ pos p.2.length q.2.length) [(0,_),(2,_),(10,_),(11,_)] (fun i=>[(12,.int .i64 ((i.i:Nat):Int))]) (fun i=>B i.s) (fun i F=>H i.s F) (fun i=>p.2.length - i.i) (⟨0,s0,Nat.zero_le _,by rw [h0,Nat.zero_mul]⟩) ⟨rfl,rfl,rfl,rfl,trivial⟩ ⟨rfl,trivial⟩ subl_r (fun _ h=>h) (fun i=>?_)
 simp only [List.cons_append,List.nil_append]
 have hi:=i.le
 refine J_sr<|QA (QV rfl rfl rfl)<|JS_nt<|QG ?_
 refine QR rfl (fun hc=>?_) (fun hc=>?_)
 ·
  have hlt:i.i<p.2.length:=by have:=dec_t hc;omega
  have hta:=Jc hlt
  obtain ⟨hna,hra,hpa⟩:=hw.1 _ hta
  have hza:=hz.1 _ hta
  refine QP<|QC<|QG<|Qa<|J_sr<|QA (Ja (n:=p.1.n) (i.i) (fun F ⟨hs0,hs1⟩=>(hH _ _ hs0).2.2.1.1) rfl rfl J1 Jd (by omega))<|QA (X2 (n:=p.1.n) (vs:=[.int .i64 (el p.2 (i.i)).x.n.s,.slice (el p.2 (i.i)).x.n.q (el p.2 (i.i)).x.n.n (el p.2 (i.i)).x.n.cap,.int .i64 (el p.2 (i.i)).x.d.s,.slice (el p.2 (i.i)).x.d.q (el p.2 (i.i)).x.d.n (el p.2 (i.i)).x.d.cap,.slice (el p.2 (i.i)).r.q (el p.2 (i.i)).r.n (el p.2 (i.i)).r.cap]) ((i.i)*5) (fun F ⟨hs0,hs1⟩=>(hH _ _ hs0).2.2.1.1) (by omega) rfl Jd rfl (fun j v hv=>XM (f:=Ya) (l:=p.2) YH (by omega) hv))<|Qb ZW (fun b5=>QN (vs:=[_,_,_,_,_]) rfl rfl rfl Jd rfl .here (.here (.here (.here (.here (.here .nil))))) ⟨rfl,rfl,rfl,rfl,rfl,trivial⟩<|JS_nt<|J_sr<|QA (Ma (c:=#[q.1.v]) (T':=157) rfl Vz (fun F ⟨hs0,hs1⟩=>(hH _ _ hs0).2.1) rfl)<|QA (Ql rfl J1)<|JS_mv rfl<|JS_nt<|Qa<|Jz (ι:=pY pos p.2.length q.2.length i.i) [(0,_),(2,_),(5,_),(10,_),(11,_),(12,_),(16,_),(17,_)] (fun i2=>[(18,.int .i64 ((i2.j:Nat):Int))]) (fun i2=>(b5,.cells (Ya (el p.2 i.i)).toArray 165 (0,0))::B i2.s) (fun i2 F=>H i2.s F) (fun i2=>q.2.length - i2.j) (⟨0,i.s,Nat.zero_le _,by rw [i.hp,Nat.add_zero]⟩) ⟨rfl,rfl,rfl,rfl,rfl,rfl,rfl,rfl,trivial⟩ ⟨rfl,trivial⟩ subl_r (fun _ h=>h.2) (fun i2=>?_))
  simp only [List.cons_append,List.nil_append]
  have hj:=i2.le
  refine J_sr<|QA (QV rfl rfl rfl)<|JS_nt<|QG ?_
  refine QR rfl (fun hc=>?_) (fun hc=>?_)
  ·
   have hlt2:i2.j<q.2.length:=by have:=dec_t hc;omega
   have htb:=Jc hlt2
   obtain ⟨hnb,hrb,hpb⟩:=hw.2 _ htb
   have hzb:=hz.2 _ htb
   refine QP<|QC<|QG<|Qa<|J_sr<|QA (Ja (n:=q.1.n) (i2.j) (fun F ⟨⟨hs0,hs1⟩,hs2⟩=>(hH _ _ hs0).2.2.2.1) rfl rfl J1 Jd (by omega))<|QA (X2 (n:=q.1.n) (vs:=[.int .i64 (el q.2 (i2.j)).x.n.s,.slice (el q.2 (i2.j)).x.n.q (el q.2 (i2.j)).x.n.n (el q.2 (i2.j)).x.n.cap,.int .i64 (el q.2 (i2.j)).x.d.s,.slice (el q.2 (i2.j)).x.d.q (el q.2 (i2.j)).x.d.n (el q.2 (i2.j)).x.d.cap,.slice (el q.2 (i2.j)).r.q (el q.2 (i2.j)).r.n (el q.2 (i2.j)).r.cap]) ((i2.j)*5) (fun F ⟨⟨hs0,hs1⟩,hs2⟩=>(hH _ _ hs0).2.2.2.1) (by omega) rfl Jd rfl (fun j v hv=>XM (f:=Ya) (l:=q.2) YH (by omega) hv))<|Qb ZW (fun b7=>QN (vs:=[_,_,_,_,_]) rfl rfl rfl Jd rfl .here (.here (.here (.here (.here (.here .nil))))) ⟨rfl,rfl,rfl,rfl,rfl,trivial⟩<|JS_nt<|J_sr<|Qb AO (fun b8=>JS_nt<|QG<|J_sr<|QA (QH rfl X4 Qz)<|QA (Qj rfl Qz (.there (.there .here)) (.skip (.skip (.skip (.skip (.here .nil))))))<|QA (Ql rfl Qf)<|JS_mv rfl<|QE ?_))
   refine QC<|Qa<|Jz (ι:=pX n) [(0,_),(2,_),(5,_),(7,_),(8,_),(10,_),(11,_),(12,_),(16,_),(17,_),(18,_),(24,_)] (fun i3=>[(25,.int .i64 ((i3.k:Nat):Int))]) (fun i3=>(b8,.cells ((Gu (el p.2 i.i).t.2 (el q.2 i2.j).t.2 i3.k).map Qx).toArray 160 (0,0))::(b7,.cells (Ya (el q.2 i2.j)).toArray 165 (0,0))::(b5,.cells (Ya (el p.2 i.i)).toArray 165 (0,0))::B i2.s) (fun i3 F=>True) (fun i3=>n - i3.k) (⟨0,Nat.zero_le _⟩) ⟨rfl,rfl,rfl,rfl,rfl,rfl,rfl,rfl,rfl,rfl,rfl,rfl,trivial⟩ ⟨rfl,trivial⟩ subl_r (fun _ _=>trivial) (fun i3=>?_)
   simp only [List.cons_append,List.nil_append]
   have hk:=i3.le
   refine J_sr<|QA (QV rfl rfl rfl)<|JS_nt<|QG ?_
   refine QR rfl (fun hc=>?_) (fun hc=>?_)
   ·
    have hlt3:i3.k<n:=by have:=dec_t hc;omega
    have hka:=hpa.el (show i3.k<(el p.2 i.i).t.2.length by omega)
    have hkb:=hpb.el (show i3.k<(el q.2 i2.j).t.2.length by omega)
    refine QP<|QC<|QG<|Qa<|J_sr<|JS_mv rfl<|JS_as rfl<|JS_nt<|Xv 13 subl_r mixed (by kernel_rfl) (by kernel_rfl) ?_
    simp only [List.take_succ_cons,List.take_zero,List.drop_succ_cons,List.drop_zero]
    refine QK (QD rfl)<|QK (QH rfl X4 Qz)<|QK (Qj rfl Qz (.there (.there .here)) (.skip (.skip (.skip (.skip (.here .nil))))))<|QK (QD rfl)<|QK (Ja (n:=(el p.2 i.i).r.n) (i3.k) (fun F ⟨⟨⟨hs0,hs1⟩,hs2⟩,_⟩=>(((hH _ _ hs0).2.2.1.2.1 _ hta).2).1) rfl rfl Qf Qp (by omega))<|QK (Jk (n:=(el p.2 i.i).r.n) ((i3.k)*1) (fun F ⟨⟨⟨hs0,hs1⟩,hs2⟩,_⟩=>(((hH _ _ hs0).2.2.1.2.1 _ hta).2).1) (by omega) rfl Qp (JO (o:=(el p.2 i.i).t.2) (by omega)))<|QK (QH rfl X4 Qz)<|QK (Qj rfl Qz (.there .here) (.skip (.skip (.skip (.skip (.here .nil))))))<|QK (QD rfl)<|QK (Ja (n:=(el q.2 i2.j).r.n) (i3.k) (fun F ⟨⟨⟨hs0,hs1⟩,hs2⟩,_⟩=>(((hH _ _ hs0).2.2.2.2.1 _ htb).2).1) rfl rfl Qf Qp (by omega))<|QK (Jk (n:=(el q.2 i2.j).r.n) ((i3.k)*1) (fun F ⟨⟨⟨hs0,hs1⟩,hs2⟩,_⟩=>(((hH _ _ hs0).2.2.2.2.1 _ htb).2).1) (by omega) rfl Qp (JO (o:=(el q.2 i2.j).t.2) (by omega)))<|QK (Qu rfl rfl (by omega))<|QK (Le (i:=i3.k) rfl rfl Oj Qp (by omega))<|VL<|QN (vs:=[_]) rfl rfl rfl Qp rfl .here (CZ (by omega)) ⟨rfl,trivial⟩<|QE<|Qk<|QC<|QB<|QA (Qu rfl rfl (by omega))<|JS_mv rfl<|QE ?_
    exact Qo (⟨i3.k+1,hlt3⟩) (by show n - (i3.k+1)<n - i3.k;omega) ⟨rfl,rfl,rfl,rfl,rfl,rfl,rfl,rfl,rfl,rfl,rfl,rfl,rfl,trivial⟩ subl_r (fun F h=>⟨h.1,trivial⟩)
   ·
    have hge3:i3.k=n:=by have:=dec_f hc;omega
    refine Q5 ?_
    repeat (first | refine Qd ?_ | refine QW (by rfl) ?_)
    refine Qe<|QC<|QG ?_
    rw [hge3,Fu hna hnb]
    refine R7 7 subl_r mixed (by kernel_rfl) (by kernel_rfl) rfl ?_
    simp only [List.take_succ_cons,List.take_zero,List.drop_succ_cons,List.drop_zero]
    refine QK (QD rfl)<|QK (QJ (vs:=(Z4 (Xj (el p.2 i.i).t.2 (el q.2 i2.j).t.2)).1.map Qx) rfl Wj .here (NV.all _) (by simp [Z4]))<|QK (QH rfl Z0 Qc)<|QK (QJ (vs:=[_,_,_,_]) rfl Qc (.there (.there .here)) (.here (.here (.here (.here .nil)))) rfl)<|QK (QH rfl Z0 Qc)<|QK (QJ (vs:=[_,_,_,_]) rfl Qc (.there .here) (.here (.here (.here (.here .nil)))) rfl)<|QY rfl (fun w F hF ⟨⟨⟨hs0,hs1⟩,hs2⟩,_⟩=>KR hF ((hH _ _ hs0).2.2.1.2.1 _ hta).1 ((hH _ _ hs0).2.2.2.2.1 _ htb).1 (by omega) (by omega)) (fun x48=>Ow ?_)
    refine Ia (E':=fun s':{ s:ι // pos s=pos i2.s+1 }=>⟨w0,F0,(b8,.cells ((Z4 (Xj (el p.2 i.i).t.2 (el q.2 i2.j).t.2)).1.map Qx).toArray 160 (0,0))::(b7,.cells (Ya (el q.2 i2.j)).toArray 165 (0,0))::(b5,.cells (Ya (el p.2 i.i)).toArray 165 (0,0))::B s'.1,fun F=>(H s0 F∧H i.s F)∧H s'.1 F⟩) rfl rfl (fun W hW=>?_) (fun s49=>?_)
    ·obtain ⟨fn,tmps,assign,body,e1,e2⟩:=hround (fun F=>H s0 F∧H i.s F) [(b8,.cells ((Z4 (Xj (el p.2 i.i).t.2 (el q.2 i2.j).t.2)).1.map Qx).toArray 160 (0,0)),(b7,.cells (Ya (el q.2 i2.j)).toArray 165 (0,0)),(b5,.cells (Ya (el p.2 i.i)).toArray 165 (0,0))] i2.s i.i i2.j x48 W hlt hlt2 i2.hp ((hW.perm (List.perm_append_comm (l₁:=[_,_,_]))).BL fun F h=>⟨h.1.1,h.2⟩)
     exact⟨fn,tmps,assign,body,e1,e2.mono fun e w' ⟨h2,s',h3,h4⟩=>⟨h2,⟨s',h3⟩,h4.perm (List.perm_append_comm (l₂:=[_,_,_]))⟩⟩
    refine zM (fun⟨a,w,h⟩=>by obtain ⟨c,e,_⟩:=h;cases e) rfl<|QA (Yt rfl)<|QE<|QC ?_
    refine QR rfl (fun hc=>?_) (fun hc=>?_)
    ·exact absurd hc (by decide)
    ·
     refine QP<|Qk<|QC<|QB<|QA (Qu rfl rfl (by omega))<|JS_mv rfl<|QE ?_
     exact Qo (⟨i2.j+1,s49.1,hlt2,by rw [s49.2,i2.hp];omega⟩) (by show q.2.length - (i2.j+1)<q.2.length - i2.j;omega) ⟨rfl,rfl,rfl,rfl,rfl,rfl,rfl,rfl,rfl,trivial⟩ (.cons _ (.cons _ subl_r)) (fun F h=>h)
  ·
   have hge2:i2.j=q.2.length:=by have:=dec_f hc;omega
   refine Q5 ?_
   repeat (first | refine Qd ?_ | refine QW (by rfl) ?_)
   refine Qe<|Qk<|QC<|QB<|QA (Qu rfl rfl (by omega))<|JS_mv rfl<|QE ?_
   exact Qo (⟨i.i+1,i2.s,hlt,by rw [i2.hp,hge2,Nat.add_mul,Nat.one_mul]⟩) (by show p.2.length - (i.i+1)<p.2.length - i.i;omega) ⟨rfl,rfl,rfl,rfl,rfl,trivial⟩ (.cons _ subl_r) (fun F h=>⟨h.1.1,h.2⟩)
 ·
  have hge:i.i=p.2.length:=by have:=dec_f hc;omega
  refine Q5 ?_
  repeat (first | refine Qd ?_ | refine QW (by rfl) ?_)
  refine Qe<|DQ ?_
  exact Yn (γ:={ s:ι // pos s=p.2.length*q.2.length }) ⟨i.s,by rw [i.hp,hge]⟩ rfl .nil rfl (fun w h=>h.imp subl_r (fun F h=>h.2))
end
section
open Go.RowKit Ig
structure W6 where
 x:Fr
 t:Tm
instance :Inhabited W6:=⟨⟨default,(0,[])⟩⟩
def Pf (ms:List W6):List (qt 25×Value):=ms.map fun e=>(Z4 e.t.2,e.x.v)
def Yv (ms:List W6):List Tm:=ms.map (·.t)
def DJ:List W6→W6→List W6
 |[],n=>[n]
 |t::l,n=>if n.t.2=t.t.2 then n::l else t::DJ l n
theorem S1 {a b:List Int} {n:Nat} (hn:n≤25) (ha:a.length=n) (hb:b.length=n) (h:Z4 a=Z4 b):a=b:=by
 have h1:(List.range 25).map (Qg a)=(List.range 25).map (Qg b):=congrArg Subtype.val h
 apply List.ext_getElem (by omega)
 intro i h2 h3
 have h4:=congrArg (fun l=>l[i]?) h1
 simp only [List.getElem?_map,List.getElem?_range (show i<25 by omega),Option.map_some,Option.some.injEq] at h4
 simpa [Qg,h2,h3] using h4
theorem N7:∀ (ms:List W6) (n:W6),Yv (DJ ms n)=Hk (Yv ms) n.t
 |[],n=>rfl
 |t::l,n=>by
  have ih:=N7 l n
  unfold Yv at ih ⊢
  simp only [DJ,List.map_cons,Hk]
  split
  ·simp
  ·simp [ih]
theorem BG {ts:List W6} {n x:W6} (h:x∈DJ ts n):x=n∨x∈ts:=by
 induction ts with
 |nil=>simp [DJ] at h;exact .inl h
 |cons t l ih =>
  simp only [DJ] at h
  split at h
  ·rcases List.mem_cons.1 h with h | h
   ·exact .inl h
   ·exact .inr (List.mem_cons_of_mem _ h)
  ·rcases List.mem_cons.1 h with h | h
   ·exact .inr (h ▸ List.mem_cons_self)
   ·rcases ih h with h | h
    ·exact .inl h
    ·exact .inr (List.mem_cons_of_mem _ h)
def dS (n:Nat) (ms:List W6):Prop:=∀ e∈ms,e.t.2.length=n
theorem Mu {w:Nat} (hw:w≤25):∀ (ms:List W6) (n:W6),dS w ms→n.t.2.length=w→Pf (DJ ms n)=BB (Pf ms) (Z4 n.t.2) n.x.v
 |[],n,_,_=>rfl
 |t::l,n,h,hn=>by
  have ih:=Mu hw l n (fun e he=>h e (List.mem_cons_of_mem _ he)) hn
  unfold Pf at ih ⊢
  simp only [DJ,List.map_cons,BB]
  by_cases g:n.t.2=t.t.2
  ·rw [if_pos g,if_pos (congrArg Z4 g)];simp
  ·rw [if_neg g,if_neg fun e=>g (S1 hw hn (h t List.mem_cons_self) e)];simp [ih]
theorem jq {w:Nat} (hw:w≤25):∀ (ms:List W6) (p:List Int) (i:Nat),dS w ms→p.length=w→(Zs (Pf ms) (Z4 p) i=none∧p∉(Yv ms).map (·.2))∨∃ j,∃ t∈ms,t.t.2=p∧Zs (Pf ms) (Z4 p) i=some (j,t.x.v)
 |[],_,_,_,_=>.inl ⟨rfl,by simp [Yv]⟩
 |t::l,p,i,h,hp=>by
  by_cases g:p=t.t.2
  ·exact .inr ⟨i,t,List.mem_cons_self,g.symm,by show(if _ then _ else _)=_;rw [if_pos (congrArg Z4 g)]⟩
  ·have g2:¬ Z4 p=Z4 t.t.2:=fun e=>g (S1 hw hp (h t List.mem_cons_self) e)
   rcases jq hw l p (i+1) (fun e he=>h e (List.mem_cons_of_mem _ he)) hp with ⟨h1,h2⟩ | ⟨j,u,hu,h1,h2⟩
   ·refine .inl ⟨?_,?_⟩
    ·show(if _ then _ else _)=_
     rw [if_neg g2];exact h1
    ·simp only [Yv,List.map_cons,List.mem_cons,not_or];exact⟨g,h2⟩
   ·refine .inr ⟨j,u,List.mem_cons_of_mem _ hu,h1,?_⟩
    show(if _ then _ else _)=_
    rw [if_neg g2];exact h2
def vF (F:Gs) (ms:List W6):Prop:=∀ e∈ms,JW F e.x e.t.1
theorem vF.le {F F':Gs} {ms:List W6} (h:vF F ms) (k:Gs.le F F'):vF F' ms:=fun e he=>(h e he).le k
structure EN (n:Nat) (ms:List W6) (l:List Tm):Prop where
 T4:IV (Yv ms) l
 wd:dS n ms
 pw:∀ e∈ms,PW e.t.2
 ln:ms.length≤l.length
theorem EN.nil {n:Nat}:EN n [] []:=⟨IV.nil,(fun _ h=>by cases h),(fun _ h=>by cases h),Nat.le_refl _⟩
theorem Oq (ms:List W6) (n:W6):(DJ ms n).length≤ms.length+1:=by
 induction ms with
 |nil=>exact Nat.le_refl _
 |cons t l ih =>
  simp only [DJ]
  split<;>simp only [List.length_cons]<;>omega
theorem EN.add {w:Nat} {ms:List W6} {l:List Tm} (h:EN w ms l) {f:Rat} {p:List Int} (hp:PW p) (hw:p.length=w) {n:W6} (hn:n.t=(f+Jl (Yv ms) p,p)):EN w (DJ ms n) (l++[(f,p)]) :=
 ⟨by rw [N7,hn];exact h.T4.add f p,fun t ht=>by
  rcases BG ht with rfl | ht
  ·rw [hn];exact hw
  ·exact h.wd t ht,fun t ht=>by
  rcases BG ht with rfl | ht
  ·rw [hn];exact hp
  ·exact h.pw t ht,by have:=Oq ms n;have:=h.ln;rw [List.length_append];simp only [List.length_singleton];omega⟩
theorem EN.sz {w:Nat} {ms:List W6} {l:List Tm} (h:EN w ms l) {t:W6} (ht:t∈ms):JL t.t.1≤Zb l+1:=by
 rw [← h.T4.Be (List.mem_map_of_mem (f:=W6.t) ht),h.T4.eq];exact Hx _ _
structure vB (n:Nat) (l:List Tm) where
 k:Nat
 ms:List W6
 hI:EN n ms (l.take k)
theorem Lk {p q:List XO} {i j:Nat} (hi:i<p.length) (hj:j<q.length):(Jg (JF p) (JF q))[i*q.length+j]?=some ((el p i).t.1*(el q j).t.1,Xj (el p i).t.2 (el q j).t.2):=by
 induction p generalizing i with
 |nil=>simp at hi
 |cons a p ih =>
  rw [show JF (a::p)=a.t::JF p from rfl,V9]
  have hl:(XP a.t (JF q)).length=q.length:=by simp [XP,JF]
  cases i with
  |zero =>
   rw [Nat.zero_mul,Nat.zero_add,List.getElem?_append_left (by omega)]
   simp [XP,JF,Za hj,hj,el]
  |succ i =>
   rw [List.getElem?_append_right (by rw [hl,Nat.add_mul];omega),hl,show(i+1)*q.length+j - q.length=i*q.length+j by rw [Nat.add_mul];omega]
   have:=ih (i:=i) (by simpa using hi)
   rw [this];simp [el]
theorem CL {l:List Tm} {k:Nat} {t:Tm} (h:l[k]?=some t):l.take (k+1)=l.take k++[t]:=by
 obtain ⟨h1,rfl⟩:=List.getElem?_eq_some_iff.1 h
 rw [List.take_succ_eq_append_getElem h1]
theorem j8 {l:List Tm} {k:Nat}:Zb (l.take k)≤Zb l:=CN (List.take_append_drop k l)
theorem Ml:TC Tryz.prog 152 160 130=true:=by kernel_rfl
theorem Rj:R6 Tryz.prog 160 (VD (n:=25)):=.arr (e:=3) (by kernel_rfl) (by kernel_rfl) (by kernel_rfl)
theorem CG:yX Tryz.prog 130=some (.agg #[.int .i64 0,.slice none 0 0,.int .i64 0,.slice none 0 0]):=by kernel_rfl
end
section
open Go.RowKit Ig
theorem Bs:Z9 Tryz.prog 152=some (false,1):=by kernel_rfl
theorem yZ:XG Tryz.prog 152=some [.map none]:=by kernel_rfl
theorem Ud {w:World} {F:Gs} {p q:Sr} (hF:Fits F w):QS Tryz.prog 129 [p.v,q.v] w F (fun(c:Nat×Nat)=>.func (.func 209) #[] #[.pointer (some ⟨c.1,0,none⟩),.pointer (some ⟨c.2,0,none⟩)]) (fun c F=>F c.1=some (#[p.v],157)∧F c.2=some (#[q.v],157)):=by
 dsimp only [Sr.v]
 refine QS.intro (G:=fun F=>True) Tryz.func129 rfl (by rfl) rfl rfl hF (fun F' hF'=>trivial)<|J_sr<|Qw rfl (vs:=[_]) rfl (fun b2=>Qw rfl (vs:=[_]) rfl (fun b3=>JS_as rfl<|JS_nt<|J_sr<|DM (b:=b2) (.there .here)<|DM (b:=b3) .here<|QA (MZ rfl)<|JS_as rfl<|JS_nt<|QT ?_))
 exact QQ ((b2,b3)) rfl (.tmp rfl .nil) (rfl) (fun F h=>⟨h.1.2,h.2⟩)
section
variable [Dr]
theorem Cu {w:World} {F:Gs} {a b:XO} (hF:Fits F w) (hA:SF F a) (hB:SF F b) (pa:PW a.t.2) (pb:PW b.t.2):QZ Tryz.prog 135 [Ui a,Ui b] w F (.int .i64 (VC a.t.2 b.t.2)):=by
 refine QS.intro (G:=fun F=>SF F a∧SF F b) Tryz.func135 rfl (by rfl) rfl rfl hF (fun F' hF'=>⟨hA.le hF',hB.le hF'⟩)<|J_sr<|Qw rfl (vs:=[_,_,_,_,_]) rfl (fun b2=>Qw rfl (vs:=[_,_,_,_,_]) rfl (fun b3=>JS_as rfl<|JS_nt<|J_sr<|QA (QH rfl X4 Qz)<|QA (Qj rfl Qz (.there .here) (.skip (.skip (.skip (.skip (.here .nil))))))<|QA (QH rfl X4 Qz)<|QA (Qj rfl Qz .here (.skip (.skip (.skip (.skip (.here .nil))))))<|QI rfl (fun w F hF ⟨hA,hB⟩=>HM hF (ra:=a.r) (rb:=b.r) hA.2 (hB.2) (pa) (pb)) (fun _=>JS_as rfl<|JS_nt<|QT ?_)))
 exact QQ (()) rfl (.tmp rfl .nil) (rfl) (fun F ⟨⟨hA,hB⟩,_⟩=>trivial)
end
theorem Oe:AM 135:=⟨enters_of Tryz.func135 (by rfl) rfl,fun w F a b hF hA hB pa pb=>@Cu ⟨True⟩ w F a b hF hA hB pa pb⟩
end
section
open Go.RowKit Ig
theorem RN {l vs:List Value} (h:l.length=vs.length):Kt l 0 vs vs:=by
 have h1:=Kt.mk' 0 l vs (by omega)
 rwa [List.take_zero,List.nil_append,Nat.zero_add,List.drop_of_length_le (by omega),List.append_nil] at h1
theorem Y4 (l:List Int):((Z4 l).1.map Qx).length=25:=by simp [Z4]
theorem RS (l:List Int):HQ ((Z4 l).1.map Qx):=by
 have key:∀ (x:List Int),HQ (x.map Qx):=by
  intro x
  induction x with
  |nil=>trivial
  |cons a x ih=>exact⟨rfl,ih⟩
 exact key _
theorem LN {F:Gs} {b n:Nat} {l:List Int} (h:F b=some (((Z4 l).1.map Qx).toArray,160)) (hl:l.length=n) (hn:n≤25):JP F ⟨some ⟨b,0,none⟩,n,25⟩ l:=by
 refine⟨⟨by simp [hl],fun _=>⟨b,0,_,_,rfl,h,fun j u hu=>?_⟩⟩,hl,hn⟩
 rw [Nat.zero_add]
 have hj:j<l.length:=by
  rcases Nat.lt_or_ge j l.length with g | g
  ·exact g
  ·rw [List.getElem?_eq_none (by simpa using g)] at hu;cases hu
 have h25:j<25:=by omega
 rw [List.getElem?_map,List.getElem?_eq_getElem hj] at hu
 simp only [Option.map_some,Option.some.injEq] at hu
 rw [← hu]
 simp [Z4,h25,Qg,hj]
section
variable [Dr] [df:Df] {P:Program} {Q:Exit→Act→World→Prop} {N:Nat} {m:Sl} {ops:Array Oper} {l:List Oper} {E E':Env}
theorem ql (h:∀ w,St E w→St E' w) (k:JS P ops Q l N m E'):JS P ops Q l N m E:=fun a w ha hw=>k a w ha (h w hw)
theorem Ty {w0:World} {F0:Gs} {bs bs':List (Nat×Obj)} {G:Gs→Prop} {E0:Env} (hp:bs.Perm bs') (k:JD P ops Q E0 l N m ⟨w0,F0,bs',G⟩):JD P ops Q E0 l N m ⟨w0,F0,bs,G⟩:=fun hE a w ha hw=>k (fun w h=>hE w (h.perm hp.symm)) a w ha (hw.perm hp)
end
theorem MW {N:Nat} {m:Sl} {ps:Array Tmp} {assign body:Code} {r:Loop} (h:Ov N m ps assign body r):{ ({ r with state:=.busy }:Loop) with state:=.ready,pending:=none }=r:=by
 obtain ⟨h1,h2,_,_,_,_⟩:=h
 cases r;simp only at h1 h2;subst h1;subst h2;rfl
theorem Dh {N:Nat} {m:Sl} {p1 p2:Tmp} {assign body:Code} {r:Loop} (h:Ov N m #[p1,p2] assign body r) (v1 v2:Value) (h1:p1<N) (h2:p2<N):Jr (df:=K6) N ((p2,v2)::(p1,v1)::m) (RH r #[v1,v2]):=by
 have e:RH r #[v1,v2]=((({ tmps:=r.tmps,defers:=[] }:Act).put (some p1) v1).put (some p2) v2):=by
  unfold RH;rw [h.params];simp [Act.put]
 rw [e]
 exact(h.yv.put (d:=some p1) (by simpa [J0] using h1) v1).put (d:=some p2) (by simpa [J0] using h2) v2
def Cm (l:List Tm):List Tm:=l.filter fun t=>decide (t.1≠0)
structure yU (ms:List W6) where
 seen:List Nat
 os:List XO
 v:Value
 n:Nat
 ob:List (Nat×Obj)
 hr:Q3 165 5 v n (os.flatMap Ya) ob
 nd:seen.Nodup
 lt:∀ j∈seen,j<ms.length
 hn:os.length=n
 ho:JF os=Cm (Yv (seen.map (el ms)))
theorem V8 (p q:List Tm):(Jg p q).length=p.length*q.length:=by
 unfold Jg
 induction p with
 |nil=>simp
 |cons a p ih=>rw [List.flatMap_cons,List.length_append,ih,List.length_cons,Nat.add_mul];simp [XP];omega
theorem Pa {p q:List Tm} {t:Tm} (h:t∈Jg p q):∃ s∈p,∃ u∈q,t.2=Xj s.2 u.2:=by
 unfold Jg XP at h
 obtain ⟨s,hs,h1⟩:=List.mem_flatMap.1 h
 obtain ⟨u,hu,rfl⟩:=List.mem_map.1 h1
 exact⟨s,hs,u,hu,rfl⟩
theorem Cc {p q:List Tm} (lp:p.length≤64) (lq:q.length≤64) (hp:∀ t∈p,JL t.1≤2400) (hq:∀ t∈q,JL t.1≤2400):Zb (Jg p q)≤30000000:=by
 have h1:=Bu (l:=Jg p q) (k:=4800) fun t ht=>by
  unfold Jg XP at ht
  obtain ⟨s,hs,h1⟩:=List.mem_flatMap.1 ht
  obtain ⟨u,hu,rfl⟩:=List.mem_map.1 h1
  have:=XA s.1 u.1
  have:=hp s hs
  have:=hq u hu
  show JL (s.1*u.1)≤_
  omega
 rw [V8] at h1
 have h2:p.length*q.length≤64*64:=Nat.mul_le_mul lp lq
 have h3:p.length*q.length*4801≤64*64*4801:=Nat.mul_le_mul_right _ h2
 omega
theorem Yk.small {p:Pt} {v:Int} (h:Yk p v):∀ t∈JG p,∀ k∈t.2,0≤k∧k≤12:=fun t ht=>by
 unfold JG at ht
 obtain ⟨x,hx,rfl⟩:=List.mem_map.1 ht
 exact(Ky (h.term x hx)).2.1
theorem CY {a b:List Int} (ha:∀ k∈a,0≤k∧k≤12) (hb:∀ k∈b,0≤k∧k≤12) (hl:a.length≤1000):PW (Xj a b):=by
 refine⟨fun x hx=>?_,by unfold Xj;simp;omega⟩
 unfold Xj at hx
 obtain ⟨i,hi,rfl⟩:=List.getElem_of_mem hx
 simp only [List.length_zipWith] at hi
 have h1:=ha (a[i]'(by omega)) (List.getElem_mem _)
 have h2:=hb (b[i]'(by omega)) (List.getElem_mem _)
 simp only [List.getElem_zipWith]
 omega
theorem Aw (ms:List W6):(Pf ms).length=ms.length:=by simp [Pf]
theorem Cn {ms:List W6} {seen:List Nat} {j:Nat} {t:W6} {os:List XO} {o:XO} (e:el ms j=t) (h:t.t.1≠0) (ho:JF os=Cm (Yv (seen.map (el ms)))) (hot:o.t=t.t):JF (os++[o])=Cm (Yv ((seen++[j]).map (el ms))):=by
 have e1:JF (os++[o])=JF os++[o.t]:=by unfold JF;rw [List.map_append];rfl
 have e2:Yv ((seen++[j]).map (el ms))=Yv (seen.map (el ms))++[t.t]:=by unfold Yv;rw [List.map_append,List.map_append,List.map_cons,List.map_nil,e];rfl
 rw [e1,e2,ho,hot]
 unfold Cm
 rw [List.filter_append]
 simp [h]
theorem xV {ms:List W6} {seen:List Nat} {j:Nat} {t:W6} {os:List XO} (e:el ms j=t) (h:t.t.1=0) (ho:JF os=Cm (Yv (seen.map (el ms)))):JF os=Cm (Yv ((seen++[j]).map (el ms))):=by
 have e2:Yv ((seen++[j]).map (el ms))=Yv (seen.map (el ms))++[t.t]:=by unfold Yv;rw [List.map_append,List.map_append,List.map_cons,List.map_nil,e];rfl
 rw [e2,ho]
 unfold Cm
 rw [List.filter_append]
 simp [h]
theorem L8 {n:Nat} {ms:List W6} {os cs:List XO} {l:List Tm} {seen:List Nat} (hI:EN n ms l) (hn:seen.Nodup) (hlt:∀ j∈seen,j<ms.length) (hall:∀ j,j<ms.length→j∈seen) (ho:JF os=Cm (Yv (seen.map (el ms)))) (hp:cs.Perm os) (hs:cs.Pairwise fun x y=>before y.t.2 x.t.2=false):JF cs=XC l:=by
 have h1:(Yv (seen.map (el ms))).Perm (Yv ms):=by
  have:=(Sf hn hlt hall).map (el ms)
  rw [BH] at this
  exact this.map _
 have h2:(JF cs).Perm ((Yv ms).filter fun t=>decide (t.1≠0)):=by
  have e:(JF cs).Perm (JF os):=hp.map _
  rw [ho] at e
  exact e.trans (h1.filter _)
 refine hI.T4.norm h2 ?_
 have hnd:((JF cs).map (·.2)).Nodup:=by
  have h3:((JF cs).map (·.2)).Perm (((Yv ms).filter fun t=>decide (t.1≠0)).map (·.2)):=h2.map _
  rw [h3.nodup_iff]
  exact(List.filter_sublist.map _).nodup hI.T4.nd
 unfold JF at hnd ⊢
 rw [List.pairwise_map]
 rw [List.map_map] at hnd
 have hnd2:=List.pairwise_map.1 hnd
 refine(hs.and hnd2).imp ?_
 rintro x y ⟨h1,h2⟩
 rcases Y1 x.t.2 y.t.2 with e | e | e
 ·exact absurd e h2
 ·exact e
 ·rw [h1] at e;cases e
theorem yU.bound {ms:List W6} (s:yU ms):s.n≤ms.length:=by
 have h1:=congrArg List.length s.ho
 have h2:=List.length_filter_le (fun t:Tm=>decide (t.1≠0)) (Yv (s.seen.map (el ms)))
 have h3:=GN _ _ s.nd s.lt
 unfold Cm at h1
 simp only [JF,Yv,List.length_map] at h1 h2
 have:=s.hn
 omega
theorem yU.mem {n:Nat} {ms:List W6} {l:List Tm} (hI:EN n ms l) (s:yU ms):∀ t∈s.os,PW t.t.2:=fun t ht=>by
 have h1:t.t∈JF s.os:=List.mem_map_of_mem ht
 rw [s.ho] at h1
 have h2:=(List.mem_filter.1 h1).1
 obtain ⟨e,he,h3⟩:=List.mem_map.1 h2
 obtain ⟨j,hj,h4⟩:=List.mem_map.1 he
 rw [← h3,← h4]
 exact hI.pw _ (Jc (s.lt j hj))
theorem Fp {w:World} {F:Gs} {a b:Ku} {v:Int} (hF:Fits F w) (hGl:JB F) (hA:YD F [a,b]) (ht:∀ e∈[a,b],VN e) :
  QS Tryz.prog 40 [a.1.v,b.1.v,.int .i64 v] w F (fun(c:Ku)=>.tuple #[c.1.v,.int .i64 (gC [a,b] v (XC (Jg (JG (XB a.2)) (JG (XB b.2)))))]) (fun c F=>VK F c.1 c.2 (gB [a,b] v (XC (Jg (JG (XB a.2)) (JG (XB b.2)))))):=by
 have ha:a∈[a,b]:=by simp
 have hb:b∈[a,b]:=by simp
 dsimp only [Sr.v]
 refine QS.xk (G:=fun F=>JB F∧YD F [a,b]) Tryz.func40 rfl (by rfl) rfl rfl hF (fun F' hF'=>⟨hGl.le hF',hA.le hF'⟩)<|J_sr<|JS_as rfl<|JS_as rfl<|JS_nt<|QG<|J_sr<|JS_mv rfl<|JS_mv rfl<|JS_mv rfl<|QU rfl (Q6 Dc) ME j2 rfl rfl (fun b20=>QI rfl (fun w F hF ⟨⟨hGl,hA⟩,hs20⟩=>Hi hF hGl (Q9.of (n:=2) (sz:=1) (cs:=[a,b].map fun e=>e.1.v) hs20 rfl) (hA) (rfl) (by decide) (ht)) (fun _=>JS_as rfl<|JS_nt<|J_sr<|JS_mv rfl<|QA (QV rfl rfl rfl)<|QE<|QC ?_))
 refine QR rfl (fun hc=>?_) (fun hc=>?_)
 ·
  have hc0:=bne_iff_ne.1 hc
  refine J_sr<|JS_mv rfl<|JS_as rfl<|JS_as rfl<|JS_nt<|QT<|Ox ?_
  exact JY ((⟨none,0,0⟩,[])) rfl (.tmp rfl (.tmp rfl .nil)) (by unfold gC;rw [if_neg hc0]) (fun F ⟨⟨⟨hGl,hA⟩,hs20⟩,_⟩=>by unfold gB;rw [if_neg hc0];exact VK.nil F)
 ·
  have hc0:=bne_eq_false_iff_eq.1 hc
  obtain ⟨hv,hok⟩:=Eg hc0
  have oa:=hok a ha
  have ob:=hok b hb
  have sa:=oa.Zb
  have sb:=ob.Zb
  have hpa:∀ t∈JG (XB a.2),PW t.2:=oa.pw hv.2
  have hpb:∀ t∈JG (XB b.2),PW t.2:=ob.pw hv.2
  have hwa:∀ t∈JG (XB a.2),t.2.length=(v+1).toNat:=fun t ht=>by have:=oa.wide t ht;omega
  have hwb:∀ t∈JG (XB b.2),t.2.length=(v+1).toNat:=fun t ht=>by have:=ob.wide t ht;omega
  have la:(JG (XB a.2)).length≤64:=by unfold JG;rw [List.length_map];exact oa.len
  have lb:(JG (XB b.2)).length≤64:=by unfold JG;rw [List.length_map];exact ob.len
  have hsz:Zb (Jg (JG (XB a.2)) (JG (XB b.2)))≤30000000:=Cc la lb oa.sz ob.sz
  have hpp:∀ s∈JG (XB a.2),∀ t∈JG (XB b.2),PW (Xj s.2 t.2):=fun s hs t ht=>CY (oa.small s hs) (ob.small t ht) (by rw [hwa s hs];omega)
  have hpn:=Mi (l:=Jg (JG (XB a.2)) (JG (XB b.2))) fun t ht=>by
   obtain ⟨s,hs,t',ht',e⟩:=Pa ht
   rw [e];exact hpp s hs t' ht'
  have hll:(Jg (JG (XB a.2)) (JG (XB b.2))).length≤4096:=by rw [V8];exact Nat.mul_le_mul la lb
  have hln:=Vr (Jg (JG (XB a.2)) (JG (XB b.2)))
  refine QP<|QC<|J_sr<|VH (κ:=qt 25) VD (fun m=>Qb yZ (fun b9=>QN (vs:=[_]) rfl rfl rfl Bs rfl .here (.here .nil) ⟨rfl,trivial⟩<|JS_nt<|QG<|J_sr<|JS_mv rfl<|QI rfl (fun w F hF ⟨⟨⟨hGl,hA⟩,hs20⟩,_⟩=>VT hF hGl (a:=a) (hA a ha).1 (hA a ha).2 (ht a ha) oa hv) (fun c27=>JK _ (fun w F hF h=>And.intro h.2.2.2.1 (And.intro h.2.len (And.intro h.2.2.2.2.2 (fun t ht=>(h.2.2.1 t ht).2.2.1)))) (fun h27p=>?_))))
  obtain ⟨e27,l27,m27,r27⟩:=h27p
  refine JS_mv rfl<|QI rfl (fun w F hF ⟨⟨⟨⟨hGl,hA⟩,hs20⟩,_⟩,h27⟩=>VT hF hGl (a:=b) (hA b hb).1 (hA b hb).2 (ht b hb) ob hv) (fun c29=>JK _ (fun w F hF h=>And.intro h.2.2.2.1 (And.intro h.2.len (And.intro h.2.2.2.2.2 (fun t ht=>(h.2.2.1 t ht).2.2.1)))) (fun h29p=>?_))
  obtain ⟨e29,l29,m29,r29⟩:=h29p
  refine QI rfl (fun w F hF ⟨⟨⟨⟨⟨hGl,hA⟩,hs20⟩,_⟩,h27⟩,h29⟩=>Ud (p:=c27.1) (q:=c29.1) hF) (fun c30=>JS_nt<|Qa<|vG (fun G hG=>?_))
  have hgl:∀ F,G F→JB F:=fun F h=>by obtain ⟨⟨⟨⟨⟨⟨hGl,hA⟩,hs20⟩,_⟩,h27⟩,h29⟩,h30⟩:=hG F h;exact hGl
  have hpr:∀ F,G F→F c30.1=some (#[c27.1.v],157)∧F c30.2=some (#[c29.1.v],157)∧Jm F c27.1 c27.2 (JF c27.2)∧Jm F c29.1 c29.2 (JF c29.2):=fun F h=>by
   obtain ⟨⟨⟨⟨⟨⟨hGl,hA⟩,hs20⟩,_⟩,h27⟩,h29⟩,h30⟩:=hG F h
   exact⟨h30.1,h30.2,by rw [e27];exact h27,by rw [e29];exact h29⟩
  have hvn:(v+1).toNat≤25:=by omega
  have hlp:(Jg (JF c27.2) (JF c29.2))=(Jg (JG (XB a.2)) (JG (XB b.2))):=by rw [e27,e29]
  refine Tv (ι:=vB (v+1).toNat (Jg (JG (XB a.2)) (JG (XB b.2)))) (fun s=>[(b9,.cells [.map (some m)].toArray 152 (0,0)),(m,X3 VD (Pf s.ms))]) (fun s F=>vF F s.ms) (fun s=>s.k=(Jg (JG (XB a.2)) (JG (XB b.2))).length) rfl (enters_of Tryz.func209 (by rfl) rfl) (fun L D r W hrec hW=>?_) (fun D s hs=>?_)
  ·have hprod:=Ss (ι:=vB (v+1).toNat (Jg (JG (XB a.2)) (JG (XB b.2)))) (w0:=w) (F0:=F) (B:=fun s=>(L,.loop r)::(D,.deferred (some []))::(b9,.cells [.map (some m)].toArray 152 (0,0))::[(m,X3 VD (Pf s.ms))]) (H:=fun s F=>G F∧vF F s.ms) (pos:=fun s=>s.k) (p:=c27) (q:=c29) (b1:=c30.1) (b2:=c30.2) (L:=L) (n:=(v+1).toNat)
    (fun s F h=>hpr F h.1) ⟨m27,m29⟩
    ⟨fun t ht=>⟨XD e27 hwa t ht,by rw [← r27 t ht];exact XD e27 hwa t ht,XD e27 hpa t ht⟩,fun t ht=>⟨XD e29 hwb t ht,by rw [← r29 t ht];exact XD e29 hwb t ht,XD e29 hpb t ht⟩⟩ hvn (by omega)
    ⟨fun t ht=>Nat.le_trans (XD (Q:=fun t=>JL t.1≤2400) e27 oa.sz t ht) (by omega),fun t ht=>Nat.le_trans (XD (Q:=fun t=>JL t.1≤2400) e29 ob.sz t ht) (by omega)⟩
    (fun G' C s i j x W hi hj hk hst=>?_) ⟨0,[],EN.nil⟩ rfl
   ·refine(hprod.2 W (hW.BL fun F h=>⟨h,fun e he=>by cases he⟩)).mono ?_
    rintro e w' ⟨c,rfl,h⟩
    refine⟨⟨_,rfl⟩,c.1,?_,h⟩
    have h1:=c.2
    rw [h1,← hlp,PN,Y3,Y3]
   ·have hat:=Lk hi hj
    rw [hlp,← hk] at hat
    obtain ⟨ta,hta⟩:∃ ta,ta=el c27.2 i:=⟨_,rfl⟩
    obtain ⟨tb,htb⟩:∃ tb,tb=el c29.2 j:=⟨_,rfl⟩
    have hma:ta.t∈JG (XB a.2):=by rw [hta,← e27];exact List.mem_map_of_mem (Jc hi)
    have hmb:tb.t∈JG (XB b.2):=by rw [htb,← e29];exact List.mem_map_of_mem (Jc hj)
    rw [← hta,← htb] at hat hst ⊢
    obtain ⟨f,hfe⟩:∃ f,f=ta.t.1*tb.t.1:=⟨_,rfl⟩
    obtain ⟨p,hpe⟩:∃ p,p=Xj ta.t.2 tb.t.2:=⟨_,rfl⟩
    have hpw:PW p:=by rw [hpe];exact hpp _ hma _ hmb
    have hpl:p.length=(v+1).toNat:=by rw [hpe,KH (by rw [hwa _ hma,hwb _ hmb]),hwa _ hma]
    rw [← hfe,← hpe] at hat
    rw [← hfe] at hst
    rw [← hpe]
    have htk:=CL hat
    have hzf:JL f≤20000000:=by have:=XA ta.t.1 tb.t.1;have:=oa.sz _ hma;have:=ob.sz _ hmb;rw [hfe];omega
    rcases jq hvn s.ms p 0 s.hI.wd hpl with ⟨hfm,hm⟩ | ⟨jj,t0,ht0,h0,hfm⟩
    ·
     refine E9 hst .here (by rw [hrec.params];rfl) (Dh hrec _ _ (by decide) (by decide)) ?_
     rw [hrec.assign,hrec.body]
     refine W9<|ZL (Xt L) (fun⟨_,_,h⟩=>h) rfl<|Qb AO (fun b10=>QN (vs:=(Z4 p).1.map Qx) rfl rfl rfl Wj (Y4 _) .here (RN (by rw [Y4];rfl)) (RS _)<|QE<|Vb<|ZL (Xt L) (fun⟨_,_,h⟩=>h) rfl<|Qb Xw (fun b11=>QN (vs:=[_,_,_,_]) rfl rfl rfl Qc rfl .here (.here (.here (.here (.here .nil)))) ⟨rfl,rfl,rfl,rfl,trivial⟩<|QE<|FG (.there (.there .here)) hrec.state<|Tx<|W9<|W9<|ZL (Xt L) (fun⟨_,_,h⟩=>h) rfl<|QA (Qj rfl Bs (.there (.there (.there (.there .here)))) (.here .nil))<|QA (QJ (vs:=(Z4 p).1.map Qx) rfl Wj (.there .here) (NV.all _) (Y4 _))<|QA (PJ Rj rfl rfl Ml CG (.there (.there (.there (.there (.there .here))))) hfm)<|JS_mv rfl<|QA (QM rfl rfl)<|QA (QM rfl rfl)<|Qb Xw (fun b12=>QN (vs:=[_,_,_,_]) rfl rfl rfl Qc rfl .here (.here (.here (.here (.here .nil)))) ⟨rfl,rfl,rfl,rfl,trivial⟩<|JS_as rfl<|QE ?_)))
     refine Vb<|W9<|ZL (Xt L) (fun⟨_,_,h⟩=>h) rfl<|JS_mv rfl<|QE<|Vb ?_
     refine FD rfl (fun hc=>?_) (fun hc=>?_)
     ·cases hc
     ·refine qm ?_
      refine Vb<|ZL (Xt L) (fun⟨_,_,h⟩=>h) rfl<|QA (Qj rfl Bs (.there (.there (.there (.there (.there .here))))) (.here .nil))<|QA (QJ (vs:=(Z4 p).1.map Qx) rfl Wj (.there (.there .here)) (NV.all _) (Y4 _))<|QA (QJ (vs:=[_,_,_,_]) rfl Qc (.there .here) (.here (.here (.here (.here .nil)))) rfl)<|GY (k:=Z4 p) (v:=x.v) Rj rfl rfl rfl Ml (.there (.there (.there (.there (.there (.there .here))))))<|QE<|Qk ?_
      refine FF (.there (.there (.there .here))) (fun w1 hw1=>⟨rfl,⟨s.k+1,DJ s.ms ⟨x,(f,p)⟩,by rw [htk];exact s.hI.add hpw hpl (by rw [Pu hm,Rat.add_zero])⟩,rfl,?_⟩)
      rw [MW hrec,← Mu hvn s.ms ⟨x,(f,p)⟩ s.hI.wd hpl] at hw1
      exact St.imp hw1 (.cons _ (.cons _ (.cons _ subl_r))) (fun F h=>⟨h.1.1,h.1.2.1,fun e he=>by
       rcases BG he with rfl | he
       ·exact h.2
       ·exact h.1.2.2 e he⟩)
    ·
     have hzc:=s.hI.sz ht0
     have hzt:=j8 (l:=(Jg (JG (XB a.2)) (JG (XB b.2)))) (k:=s.k)
     have hc0:Jl (Yv s.ms) p=t0.t.1:=by rw [← h0];exact s.hI.T4.Be (List.mem_map_of_mem (f:=W6.t) ht0)
     refine E9 hst .here (by rw [hrec.params];rfl) (Dh hrec _ _ (by decide) (by decide)) ?_
     rw [hrec.assign,hrec.body]
     refine W9<|ZL (Xt L) (fun⟨_,_,h⟩=>h) rfl<|Qb AO (fun b10=>QN (vs:=(Z4 p).1.map Qx) rfl rfl rfl Wj (Y4 _) .here (RN (by rw [Y4];rfl)) (RS _)<|QE<|Vb<|ZL (Xt L) (fun⟨_,_,h⟩=>h) rfl<|Qb Xw (fun b11=>QN (vs:=[_,_,_,_]) rfl rfl rfl Qc rfl .here (.here (.here (.here (.here .nil)))) ⟨rfl,rfl,rfl,rfl,trivial⟩<|QE<|FG (.there (.there .here)) hrec.state<|Tx<|W9<|W9<|ZL (Xt L) (fun⟨_,_,h⟩=>h) rfl<|QA (Qj rfl Bs (.there (.there (.there (.there .here)))) (.here .nil))<|QA (QJ (vs:=(Z4 p).1.map Qx) rfl Wj (.there .here) (NV.all _) (Y4 _))<|QA (Sn Rj rfl rfl Ml (.there (.there (.there (.there (.there .here))))) hfm)<|JS_mv rfl<|QA (QM rfl rfl)<|QA (QM rfl rfl)<|Qb Xw (fun b12=>QN (vs:=[_,_,_,_]) rfl rfl rfl Qc rfl .here (.here (.here (.here (.here .nil)))) ⟨rfl,rfl,rfl,rfl,trivial⟩<|JS_as rfl<|QE ?_)))
     refine Vb<|W9<|ZL (Xt L) (fun⟨_,_,h⟩=>h) rfl<|JS_mv rfl<|QE<|Vb ?_
     refine FD rfl (fun hc=>?_) (fun hc=>?_)
     ·refine ZL (Xt L) (fun⟨_,_,h⟩=>h) rfl ?_
      refine QA (QJ (vs:=[_,_,_,_]) rfl Qc (.there .here) (.here (.here (.here (.here .nil)))) rfl)<|QA (QJ (vs:=[_,_,_,_]) rfl Qc .here (.here (.here (.here (.here .nil)))) rfl)<|QI rfl (fun w F hF h=>ED (x:=x) (y:=t0.x) (r:=f) (s:=t0.t.1) hF h.2 (h.1.2.2 t0 ht0) (by omega) (by omega)) (fun x42=>QN (vs:=[_,_,_,_]) rfl rfl rfl Qc rfl (.there .here) (.here (.here (.here (.here .nil)))) ⟨rfl,rfl,rfl,rfl,trivial⟩<|QE<|Vb<|ZL (Xt L) (fun⟨_,_,h⟩=>h) rfl<|QA (Qj rfl Bs (.there (.there (.there (.there (.there .here))))) (.here .nil))<|QA (QJ (vs:=(Z4 p).1.map Qx) rfl Wj (.there (.there .here)) (NV.all _) (Y4 _))<|QA (QJ (vs:=[_,_,_,_]) rfl Qc (.there .here) (.here (.here (.here (.here .nil)))) rfl)<|GY (k:=Z4 p) (v:=x42.v) Rj rfl rfl rfl Ml (.there (.there (.there (.there (.there (.there .here))))))<|QE<|Qk ?_)
      refine FF (.there (.there (.there .here))) (fun w1 hw1=>⟨rfl,⟨s.k+1,DJ s.ms ⟨x42,(f+t0.t.1,p)⟩,by rw [htk];exact s.hI.add hpw hpl (by rw [hc0])⟩,rfl,?_⟩)
      rw [MW hrec,← Mu hvn s.ms ⟨x42,(f+t0.t.1,p)⟩ s.hI.wd hpl] at hw1
      exact St.imp hw1 (.cons _ (.cons _ (.cons _ subl_r))) (fun F h=>⟨h.1.1.1,h.1.1.2.1,fun e he=>by
       rcases BG he with rfl | he
       ·exact h.2
       ·exact h.1.1.2.2 e he⟩)
     ·cases hc
  letI:Df:=Ha D
  have hI:EN (v+1).toNat s.ms (Jg (JG (XB a.2)) (JG (XB b.2))):=by have h:=s.hI;rw [hs,List.take_length] at h;exact h
  refine Qk<|QC<|J_sr<|JS_as rfl<|JS_nt<|QG<|J_sr<|QA (Qj rfl Bs (.there .here) (.here .nil))<|D6 (kv:=Pf s.ms) (K:=VD) rfl Ml (.there (.there .here)) (fun b47=>JS_nt<|Qa<|Jz (ι:=yU s.ms) [(2,_),(47,_)] (fun i=>[(14,i.v)]) (fun i=>(b47,Ay m (Pf s.ms).length i.seen)::(D,.deferred (some []))::(b9,.cells [.map (some m)].toArray 152 (0,0))::(m,X3 VD (Pf s.ms))::i.ob) (fun i F=>VO F i.os) (fun i=>s.ms.length - i.seen.length) (⟨[],[],_,0,[],.nil,List.nodup_nil,(fun _ h=>by cases h),rfl,rfl⟩) ⟨rfl,rfl,trivial⟩ ⟨rfl,trivial⟩ subl_r (fun _ _ _ h=>by cases h) (fun i=>?_))
  simp only [List.cons_append,List.nil_append]
  refine J_sr<|NR (kv:=Pf s.ms) (K:=VD) (b:=m) rfl .here (.there (.there (.there .here))) (fun x hx=>QA (QM rfl (jY x))<|JS_nt<|QG ?_)
  refine QR rfl (fun hc=>?_) (fun hc=>?_)
  ·
   obtain ⟨j,rfl⟩:∃ j,x=some j:=by
    cases x with
    |none=>cases hc
    |some j=>exact⟨j,rfl⟩
   obtain ⟨hj,hjn⟩:=hx
   rw [Aw] at hj
   obtain ⟨hs1,hs2,hs3⟩:=PD i.nd i.lt hj hjn
   have htm:=Jc hj
   have hkj:(Pf s.ms)[j]?=some (Z4 (el s.ms j).t.2,(el s.ms j).x.v):=by rw [Pf,List.getElem?_map,List.getElem?_eq_getElem hj,Za hj];rfl
   generalize hte:el s.ms j=t at htm hkj
   have htw:=hI.wd t htm
   have htp:=hI.pw t htm
   refine QP<|QC<|Qa<|J_sr<|QA (Aj (kv:=Pf s.ms) (K:=VD) (p:=(Z4 t.t.2,t.x.v)) rfl .here (.there (.there (.there .here))) hkj)<|QA (QM rfl rfl)<|QA (QM rfl rfl)<|Qb AO (fun b15=>Qb Xw (fun b16=>QN (vs:=(Z4 t.t.2).1.map Qx) rfl rfl rfl Wj (Y4 _) (.there .here) (RN (by rw [Y4];rfl)) (RS _)<|QN (vs:=[_,_,_,_]) rfl rfl rfl Qc rfl .here (.here (.here (.here (.here .nil)))) ⟨rfl,rfl,rfl,rfl,trivial⟩<|JS_nt<|J_sr<|QA (QJ (vs:=[_,_,_,_]) rfl Qc .here (.here (.here (.here (.here .nil)))) rfl)<|QI rfl (fun w F hF ⟨⟨hG0,hMs⟩,hOs⟩=>GP hF (hMs t htm)) (fun _=>QA (QV rfl rfl rfl)<|QE<|QC ?_)))
   refine QR rfl (fun hc=>?_) (fun hc=>?_)
   ·
    have hnz:t.t.1≠0:=fun e=>by rw [e] at hc;cases hc
    refine NQ (b:=b15) (.there .here)<|JN (List.sublist_append_left [_,_,_,_,_] i.ob) mixed (by kernel_rfl)<|QK (QD rfl)<|QK (QJ (vs:=[_,_,_,_]) rfl Qc .here (.here (.here (.here (.here .nil)))) rfl)<|QK (QD rfl)<|QK (Qu rfl rfl (by omega))<|QK (UZ (h:=(v+1).toNat) rfl (congrArg (fun z:Int=>some (Value.int .i64 z)) (by omega)) Oj Qp (by omega))<|QY rfl (fun w F hF ⟨⟨⟨⟨hG0,hMs⟩,hOs⟩,_⟩,hk15⟩=>Rx (r:=⟨some ⟨b15,0,none⟩,(v+1).toNat,25⟩) hF (LN hk15 htw (by omega)) (by rw [htw];omega)) (fun c61=>QK (Qy rfl Md ZW (.cons (vs:=[_,_,_,_]) rfl rfl rfl (.here (.here (.here (.here .nil)))) (.cons (vs:=[_]) rfl rfl rfl (.skip (.skip (.skip (.skip (.here .nil))))) .nil))) ?_)
    refine Jp rfl (Q6 J1) Jd ZW rfl rfl (fun b63=>?_) (fun w h=>h.imp (.cons_cons _ (.cons_cons _ (.cons_cons _ (.cons_cons _ (.cons_cons _ (List.nil_sublist _)))))) (fun F h=>h.1))
    refine Ty (List.perm_append_comm (l₁:=[_,_,_,_,_])) ?_
    refine DP (n:=i.n) (k:=1) (sz:=5) (news:=Ya ⟨t.x,c61,t.t⟩) rfl rfl J1 Jd ZW rfl AG i.hr (Src.row (off:=0) (fun F ⟨⟨⟨⟨⟨⟨hG0,hMs⟩,hOs⟩,_⟩,hk15⟩,h61⟩,hs63⟩=>hs63) (fun j v hv=>by rw [Nat.zero_add];show((Ya ⟨t.x,c61,t.t⟩).toArray)[j]?=some v;rw [List.getElem?_toArray];exact hv) rfl) (by have:=i.bound;have:=hI.ln;omega) (by have:=i.bound;have:=hI.ln;omega) (RV _) subl_r (fun _ h=>h.1.1) (fun v64 ob64 hr64=>?_)
    refine Ty (List.perm_append_comm (l₂:=[_,_,_,_,_]))<|QK (QF rfl)<|Q4<|Qk ?_
    exact Qo (⟨i.seen++[j],i.os++[⟨t.x,c61,t.t⟩],v64,i.n+1,ob64,by rw [List.flatMap_append];simpa using hr64,hs1,hs2,by rw [List.length_append,i.hn];rfl,Cn hte hnz i.ho rfl⟩) (by show _ - (i.seen++[j]).length<_;rw [List.length_append];simp only [List.length_singleton];omega) ⟨rfl,rfl,rfl,trivial⟩ (.cons _ subl_r) (fun F ⟨⟨⟨⟨⟨⟨hG0,hMs⟩,hOs⟩,_⟩,hk15⟩,h61⟩,hs63⟩=>⟨⟨hG0,hMs⟩,fun o ho=>by
   rcases List.mem_append.1 ho with ho | ho
   ·exact hOs o ho
   ·rw [List.mem_singleton.1 ho];exact⟨hMs t htm,h61⟩⟩)
   ·
    have hz:t.t.1=0:=H8.1 (by simpa using hc)
    refine QP<|Qk ?_
    exact Qo (⟨i.seen++[j],i.os,i.v,i.n,i.ob,i.hr,hs1,hs2,i.hn,xV hte hz i.ho⟩) (by show _ - (i.seen++[j]).length<_;rw [List.length_append];simp only [List.length_singleton];omega) ⟨rfl,rfl,rfl,trivial⟩ (.cons _ (.cons _ subl_r)) (fun F h=>⟨h.1.1,h.1.2⟩)
  ·
   obtain rfl:x=none:=by
    cases x with
    |none=>rfl
    |some j=>cases hc
   rw [show dA (Pf s.ms).length i.seen none=∀ j,j<(Pf s.ms).length→j∈i.seen from rfl,Aw] at hx
   refine Q5 ?_
   repeat (first | refine Qd ?_ | refine QW (by rfl) ?_)
   refine Qe<|QC<|J_sr<|JS_mv rfl<|XJ rfl (List.perm_append_comm (l₁:=[_,_,_,_]) (l₂:=i.ob)) (I9 Oe i.hr (fun F h=>h.2) (yU.mem hI i) i.hn (by have:=i.bound;have:=hI.ln;omega)) (fun c=>JK _ (fun w F hF h=>h.2) (fun hso=>?_))
   have hmn:JF c.1=XC (Jg (JG (XB a.2)) (JG (XB b.2))):=L8 hI i.nd i.lt hx i.ho hso.2.1 hso.2.2
   obtain ⟨r,hv2,hrn,hrc,hfix⟩:=Q3.fix (w0:=w) (F0:=F) (bs1:=[(b47,Ay m (Pf s.ms).length (kH i.seen none)),(D,.deferred (some [])),(b9,.cells [.map (some m)].toArray 152 (0,0)),(m,X3 VD (Pf s.ms))]) (G:=_) hso.1
   refine X7 (List.perm_append_comm (l₁:=c.2))<|ql hfix ?_
   rw [hv2]
   refine JS_nt<|J_sr<|JS_mv rfl<|QI rfl (fun w F hF ⟨⟨⟨⟨hG0,hMs⟩,hOs⟩,_⟩,hrow⟩=>Wo hF (q:=r.q) (n:=r.n) (cap:=r.cap) (ts:=c.1) ⟨by rw [hrn];exact hrow,fun t ht=>hOs t (hso.2.1.mem_iff.1 ht),rfl,by rw [hrn];exact hrc,hso.2.1.length_eq.trans (i.hn.trans hrn.symm)⟩ (hgl _ hG0) (XD hmn hpn) (fun t htm=>Nat.le_trans (Bt (XD hmn (fun x hx=>hx) t htm)) (by omega)) (by have:=congrArg List.length hmn;simp only [Y3] at this;omega)) (fun c68=>?_)
   rw [hmn]
   refine QA (QM rfl rfl)<|QA (QM rfl rfl)<|JS_as rfl<|JS_as rfl<|JS_nt<|QT<|zO (.there .here) ?_
   exact JY (c68) rfl (.tmp rfl (.tmp rfl .nil)) (by unfold gC;rw [if_pos hc0];rfl) (fun F ⟨⟨⟨⟨⟨hG0,hMs⟩,hOs⟩,_⟩,hrow⟩,h68⟩=>by unfold gB;rw [if_pos hc0];exact h68)
end
section
open Go.RowKit Ig
theorem FR:((Tryz.prog.fieldsOf 24).toList.map fun f=>(f.name,f.offset,f.type))=[("Low",0,22),("High",1,22)]:=by kernel_rfl
theorem UO:Tryz.prog.underlying 24=some (.struct (Tryz.prog.fieldsOf 24)):=by kernel_rfl
theorem FQ:Tryz.prog.stoodInHeld 24=false:=by kernel_rfl
theorem P9:Tryz.prog.eqGuardType Tryz.prog.depth 24=false:=by kernel_rfl
theorem Ag:Tryz.prog.underlying 22=some .string:=by kernel_rfl
theorem UF {α β:Type} {f:α→β} {l:List α} {x y:β} (h:l.map f=[x,y]):∃ a b,l=[a,b]∧f a=x∧f b=y:=by
 match l,h with
 |[a,b],h=>simp only [List.map_cons,List.map_nil,List.cons.injEq,and_true] at h;exact⟨a,b,rfl,h.1,h.2⟩
theorem equal_span (w:World) (a b c d:List UInt8):(Op.equal 24 (.agg #[tx a,tx b]) (.agg #[tx c,tx d])).run Tryz.prog w = .ok (decide (a=c)&&decide (b=d)) w:=by
 obtain ⟨f1,f2,hf,h1,h2⟩:=UF FR
 simp only [Prod.mk.injEq] at h1 h2
 exact equal_txs UO FQ hf ⟨by rw [h1.1];decide,h1.2.1,by rw [h1.2.2];exact Ag⟩ ⟨by rw [h2.1];decide,h2.2.1,by rw [h2.2.2];exact Ag⟩ w a b c d
section
variable [Dr] [df:Df] {N:Nat} {m:Sl} {S:World→Prop} {ty:TypeId}
theorem Lb {yT:TypeId} {x y:Operand} {a b c d:List UInt8} (hx:ev m x=some (.agg #[tx a,tx b])) (hy:ev m y=some (.agg #[tx c,tx d])):Qt Tryz.prog N m S (.binOp .neq 24 x y yT) ty (.bool (!(decide (a=c)&&decide (b=d)))):=fun ac w _ _ _ _ ha _=>by
 have h1:=equal_span w a b c d
 simp only [execOp,ha.ev hx,ha.ev hy,Sem.run_bind]
 have h2:(eqGuard .neq 24 x y (.agg #[tx a,tx b]) (.agg #[tx c,tx d])).run Tryz.prog w = .ok () w:=by
  simp [eqGuard,P9]
 rw [h2]
 simp [binOp,h1]
end
end
section
open Go.RowKit Ig
def G3 (c:Rat×Rat) (bs:List (Rat×Rat)) (ks:List Int) (i:Nat):Rat×Rat:=(List.range i).foldl (fun a j=>if Qg ks j>0 then YJ a (Vx (el bs j) (Qg ks j)) else a) c
theorem Bq (c:Rat×Rat) (bs:List (Rat×Rat)) (ks:List Int) (i:Nat):G3 c bs ks (i+1)=if Qg ks i>0 then YJ (G3 c bs ks i) (Vx (el bs i) (Qg ks i)) else G3 c bs ks i:=by
 unfold G3;rw [List.range_succ,List.foldl_append];rfl
def On (a b:Rat×Rat):Rat×Rat:=(a.1+b.1,a.2+b.2)
def Du (bs:List (Rat×Rat)) (l:List Tm):Rat×Rat:=l.foldl (fun a t=>On a (G3 (t.1,t.1) bs t.2 t.2.length)) (0,0)
theorem Uz {ts:List XO} {bs:List (Rat×Rat)} {i:Nat} (h:i<ts.length):Du bs (JF (ts.take (i+1)))=On (Du bs (JF (ts.take i))) (G3 ((el ts i).t.1,(el ts i).t.1) bs (el ts i).t.2 (el ts i).t.2.length):=by
 rw [Xk h];unfold Du;rw [List.foldl_append];rfl
def NP (a:Rat×Rat) (k:Nat):Prop:=JL a.1≤k∧JL a.2≤k
theorem NP.mono {a:Rat×Rat} {k l:Nat} (h:NP a k) (g:k≤l):NP a l:=⟨Nat.le_trans h.1 g,Nat.le_trans h.2 g⟩
theorem W2 {r:Rat} {l:List Rat} {k:Nat} (h:JL r≤k) (hl:∀ x∈l,JL x≤k):NP (Y7 r l) k:=N3 l (r,r) h h hl
theorem UI {a b:Rat×Rat} {m n:Nat} (ha:NP a m) (hb:NP b n):NP (YJ a b) (m+n):=by
 have h:∀ x y:Rat,JL x≤m→JL y≤n→JL (x*y)≤m+n:=fun x y h1 h2=>by have:=XA x y;omega
 unfold YJ
 refine W2 (h _ _ ha.1 hb.1) fun x hx=>?_
 simp only [List.mem_cons,List.not_mem_nil,or_false] at hx
 rcases hx with rfl | rfl | rfl
 ·exact h _ _ ha.1 hb.2
 ·exact h _ _ ha.2 hb.1
 ·exact h _ _ ha.2 hb.2
theorem Sv {a:Rat×Rat} {n:Int} {m:Nat} (ha:NP a m) (hn:n≤12):NP (Vx a n) (12*m+1):=by
 have h:∀ x:Rat,JL x≤m→JL (x^n.toNat)≤12*m+1:=fun x hx=>by
  have h1:=Vj x n.toNat
  have h2:n.toNat*JL x≤12*m:=Nat.mul_le_mul (by omega) hx
  omega
 have hs:NP (Y7 (a.1^n.toNat) [a.2^n.toNat]) (12*m+1):=W2 (h _ ha.1) fun x hx=>by
  simp only [List.mem_cons,List.not_mem_nil,or_false] at hx
  rw [hx];exact h _ ha.2
 refine⟨?_,hs.2⟩
 unfold Vx
 dsimp only
 split
 ·have:JL (0:Rat)≤1:=by decide
  omega
 ·exact hs.1
theorem qf {a b:Rat×Rat} {m n:Nat} (ha:NP a m) (hb:NP b n):NP (On a b) (m+n+1):=by
 have h1:=KN a.1 b.1
 have h2:=KN a.2 b.2
 have h3:=ha.1
 have h4:=ha.2
 have h5:=hb.1
 have h6:=hb.2
 exact⟨by show JL (a.1+b.1)≤_;omega,by show JL (a.2+b.2)≤_;omega⟩
theorem CJ {c:Rat×Rat} {bs:List (Rat×Rat)} {ks:List Int} (hc:NP c 2400) (hx:∀ x∈bs,NP x 2400) (hk:∀ k∈ks,0≤k∧k≤12):∀ i,i≤bs.length→i≤ks.length→NP (G3 c bs ks i) (2400+i*28801):=by
 intro i
 induction i with
 |zero=>intro _ _;simpa [G3] using hc
 |succ i ih =>
  intro h1 h2
  have h3:=ih (by omega) (by omega)
  have h6:=hx _ (Jc (show i<bs.length by omega))
  have h7:0≤Qg ks i∧Qg ks i≤12:=by rw [Xp (show i<ks.length by omega)];exact hk _ (Jc (by omega))
  rw [Bq]
  split
  ·exact(UI h3 (Sv h6 h7.2)).mono (by omega)
  ·exact h3.mono (by omega)
theorem Tb {bs:List (Rat×Rat)} {B:Nat}:∀ (l:List Tm) (a:Rat×Rat) (k:Nat),NP a k→(∀ t∈l,NP (G3 (t.1,t.1) bs t.2 t.2.length) B)→NP (l.foldl (fun a t=>On a (G3 (t.1,t.1) bs t.2 t.2.length)) a) (k+l.length*(B+1))
 |[],a,k,h,_=>by simpa using h
 |t::l,a,k,h,hl=>by
  have h1:=Tb l (On a (G3 (t.1,t.1) bs t.2 t.2.length)) _ (qf h (hl t (by simp))) fun t ht=>hl t (by simp [ht])
  rw [List.foldl_cons,List.length_cons,Nat.add_mul]
  exact h1.mono (by omega)
def Ye (s:List UInt8×List UInt8):Rat×Rat:=(Ju s.1,Ju s.2)
def xw (p:Pt) (ss:List (List UInt8×List UInt8)):(List UInt8×List UInt8)×Int :=
 if PO p ss.length=0 then(if Qm (ss.map fun s=>JM s.1 s.2)=0 then Vi (Du (ss.map Ye) (JG p)) else(([],[]),Qm (ss.map fun s=>JM s.1 s.2))) else(([],[]),PO p ss.length)
structure pv (n:Nat) where
 i:Nat
 x:Sp
 le:i≤n
structure pz (n:Nat) where
 j:Nat
 y:Sp
 le:j≤n
theorem F6 {ss:List (List UInt8×List UInt8)} {j:Nat} (h:j<ss.length):el (ss.map Ye) j=Ye (el ss j):=by rw [Za (by simpa using h),Za h];simp
def xA (x:Sp):List Value:=OU x.lo++OU x.hi
theorem Te {w:World} {F:Gs} {a:Ku} {q:Option Addr} {n cap:Nat} {ss:List (List UInt8×List UInt8)} (hF:Fits F w) (hGl:JB F) (hR:Q9 F a.1.q a.1.n 2 (a.2.flatMap WQ)) (hA:Yc F a.2) (ht:VN a) (hS:Q9 F q n 2 (ss.flatMap SX)) (hn:ss.length=n) (hl:∀ s∈ss,s.1.length≤1000000∧s.2.length≤1000000) (hnb:n≤1000000) :
  QZ Tryz.prog 81 [a.1.v,.slice q n cap] w F (.tuple #[.agg #[tx (xw (XB a.2) ss).1.1,tx (xw (XB a.2) ss).1.2],.int .i64 (xw (XB a.2) ss).2]):=by
 dsimp only [Sr.v]
 refine QS.intro (G:=fun F=>JB F∧Q9 F a.1.q a.1.n 2 (a.2.flatMap WQ)∧Yc F a.2∧Q9 F q n 2 (ss.flatMap SX)) Tryz.func81 rfl (by rfl) rfl rfl hF (fun F' hF'=>⟨hGl.le hF',hR.le hF',hA.le hF',hS.le hF'⟩)<|QG<|QB ?_
 refine Qb ZN (fun b4=>?_)
 refine JS_as rfl<|JS_nt<|QG<|J_sr<|JS_mv rfl<|JS_mv rfl<|QA (Ql rfl SZ) ?_
 refine QI rfl (fun w F hF ⟨hGl,hR,hA,hS⟩=>Lo hF (hGl) (hR) (hA) (ht) (hnb)) (fun _=>?_)
 refine JS_as rfl<|JS_nt<|J_sr<|JS_mv rfl<|QA (QV rfl rfl rfl)<|QE<|QC ?_
 refine QR rfl (fun hc=>?_) (fun hc=>?_)
 ·
  have hc0:=bne_iff_ne.1 hc
  refine J_sr<|QA (Qy rfl Z7 ZN .nil)<|JS_mv rfl<|QN (vs:=[_,_]) rfl rfl rfl JC rfl .here (.here (.here .nil)) ⟨rfl,rfl,trivial⟩<|JS_as rfl<|JS_nt<|QT ?_
  exact JY (()) rfl (.JU (c:=[_,_]) rfl JC .here (.tmp rfl .nil)) (by unfold xw;rw [hn,if_neg hc0];rfl) (fun F ⟨⟨hGl,hR,hA,hS⟩,_⟩=>trivial)
 ·
  have hc0:=bne_eq_false_iff_eq.1 hc
  have hpl:Qm [if decide ((n:Int)=0)=true then 2 else 0,if decide ((n:Int)>25)=true then 5 else 0]=0∧Xs (XB a.2) ((n:Int) - 1)=0:=by
   unfold PO at hc0
   by_cases g:Qm [if decide ((n:Int)=0)=true then 2 else 0,if decide ((n:Int)>25)=true then 5 else 0]=0
   ·rw [if_pos g] at hc0;exact⟨g,hc0⟩
   ·rw [if_neg g] at hc0;exact absurd hc0 g
  have hn1:=Am hpl.1
  have oa:=Vk hpl.2
  refine QP<|QC<|QG<|J_sr<|JS_mv rfl ?_
  refine QI rfl (fun w F hF ⟨⟨hGl,hR,hA,hS⟩,_⟩=>U4 (f:=22) (es:=ss.map fun s=>JM s.1 s.2) (vs:=fun i=>SX (el ss i)) (c1:=[]) (c2:=[]) (G0:=JB) hF (fun F F' hle h=>h.le hle) hGl hS (by rw [List.length_map];exact hn) (by omega)
   (fun i hi=>⟨rfl,fun j v hv=>XM (f:=SX) (l:=ss) (fun _=>rfl) (by omega) hv⟩)
   (fun i hi v hv=>by
    unfold SX at hv
    simp only [List.mem_cons,List.not_mem_nil,or_false] at hv
    rcases hv with rfl | rfl<;>rfl)
   (fun i hi w F hF hG=>by
    rw [List.getElem_map,← Za (show i<ss.length by simpa using hi)]
    exact YX hF hG (hl _ (Jc (show i<ss.length by simpa using hi))))) (fun _=>?_)
  refine JS_as rfl<|JS_nt<|J_sr<|JS_mv rfl<|QA (QV rfl rfl rfl)<|QE<|QC ?_
  refine QR rfl (fun hc=>?_) (fun hc=>?_)
  ·
   have hd0:=bne_iff_ne.1 hc
   refine J_sr<|QA (Qy rfl Z7 ZN .nil)<|JS_mv rfl<|QN (vs:=[_,_]) rfl rfl rfl JC rfl .here (.here (.here .nil)) ⟨rfl,rfl,trivial⟩<|JS_as rfl<|JS_nt<|QT ?_
   exact JY (()) rfl (.JU (c:=[_,_]) rfl JC .here (.tmp rfl .nil)) (by unfold xw;rw [hn,if_pos hc0,if_neg hd0];rfl) (fun F ⟨⟨⟨hGl,hR,hA,hS⟩,_⟩,_⟩=>trivial)
  ·
   have hd0:=bne_eq_false_iff_eq.1 hc
   have hcs:∀ s∈ss,JM s.1 s.2=0:=fun s hs=>Ux hd0 _ (List.mem_map.2 ⟨s,hs,rfl⟩)
   have hss:∀ s∈ss,NP (Ye s) 2400:=fun s hs=>by
    have h3:=Z2 (hcs s hs)
    exact⟨XH h3.1,XH h3.2.1⟩
   have hxs:∀ x∈ss.map Ye,NP x 2400:=fun x hx=>by
    obtain ⟨s,hs,rfl⟩:=List.mem_map.1 hx
    exact hss s hs
   have hpa:∀ t∈JG (XB a.2),PW t.2:=oa.pw (by omega)
   have hpk:∀ t∈JG (XB a.2),∀ k∈t.2,0≤k∧k≤12:=fun t ht=>by
    unfold JG at ht
    obtain ⟨x,hx,rfl⟩:=List.mem_map.1 ht
    exact(Ky (oa.term x hx)).2.1
   have hwd:∀ t∈JG (XB a.2),t.2.length=n:=fun t ht=>by have:=oa.wide t ht;omega
   have la:(JG (XB a.2)).length≤64:=by unfold JG;rw [List.length_map];exact oa.len
   have hsl2:(ss.map Ye).length=n:=by rw [List.length_map];exact hn
   have hvm:∀ t∈JG (XB a.2),∀ i,i≤n→NP (G3 (t.1,t.1) (ss.map Ye) t.2 i) 722425:=fun t ht i hi=>by
    have h1:=CJ (c:=(t.1,t.1)) ⟨oa.sz t ht,oa.sz t ht⟩ hxs (hpk t ht) i (by omega) (by rw [hwd t ht];exact hi)
    have h2:i*28801≤25*28801:=Nat.mul_le_mul_right _ (by omega)
    exact h1.mono (by omega)
   have hev:∀ l:List Tm,(∀ t∈l,t∈JG (XB a.2))→l.length≤64→NP (Du (ss.map Ye) l) 50000000:=fun l hl h64=>by
    have h1:=Tb (bs:=ss.map Ye) (B:=722425) l (0,0) 1 ⟨by decide,by decide⟩ fun t ht=>hvm t (hl t ht) _ (Nat.le_of_eq (hwd t (hl t ht)))
    have h3:l.length*722426≤64*722426:=Nat.mul_le_mul_right _ h64
    unfold Du
    exact h1.mono (by omega)
   refine QP<|QC<|QG<|QB ?_
   refine QI rfl (fun w F hF ⟨⟨⟨hGl,hR,hA,hS⟩,_⟩,_⟩=>gG hF (by omega) (by omega)) (fun x28=>?_)
   refine QI rfl (fun w F hF ⟨⟨⟨⟨hGl,hR,hA,hS⟩,_⟩,_⟩,⟨h28,h28_⟩⟩=>KG hF (x:=x28) (ps:=[]) ⟨by assumption,by assumption⟩ (Q9.nil F _ _) (fun p hp=>absurd hp (List.not_mem_nil)) rfl (by omega) ⟨by decide,fun p hp=>absurd hp (List.not_mem_nil)⟩) (fun c29=>?_)
   refine Qb ZA (fun b8=>?_)
   refine QN (vs:=[_,_,_,_,_,_,_,_]) rfl rfl rfl Jj rfl .here (.here (.here (.here (.here (.here (.here (.here (.here .nil)))))))) ⟨rfl,rfl,rfl,rfl,rfl,rfl,rfl,rfl,trivial⟩<|JS_nt<|QG<|J_sr<|JS_mv rfl ?_
   refine QI rfl (fun w F hF ⟨⟨⟨⟨⟨hGl,hR,hA,hS⟩,_⟩,_⟩,⟨h28,h28_⟩⟩,h29⟩=>VT hF hGl (a:=a) hR hA ht oa (by omega)) (fun c31=>?_)
   refine JK _ (fun w F hF h=>And.intro h.2.2.2.1 (And.intro h.2.len (And.intro h.2.2.2.2.2 (fun t ht=>(h.2.2.1 t ht).2.2.1)))) (fun h31p=>?_)
   obtain ⟨e31,l31,m31,r31⟩:=h31p
   have hsub:∀ k,∀ t∈JF (c31.2.take k),t∈JG (XB a.2):=fun k t ht=>by
    rw [← e31]
    unfold JF at ht ⊢
    obtain ⟨y,hy,rfl⟩:=List.mem_map.1 ht
    exact List.mem_map_of_mem (List.mem_of_mem_take hy)
   refine QA (Ql rfl J1)<|JS_mv rfl<|JS_nt<|Qa ?_
   refine Jz (ι:=pv c31.2.length) [(1,_),(4,_),(8,_),(31,_),(32,_)] (fun i=>[(33,.int .i64 ((i.i:Nat):Int))]) (fun i=>[(b8,.cells (xA i.x).toArray 138 (0,0)),(b4,.cells [tx [],tx []].toArray 24 (0,0))]) (fun i F=>Xy F i.x (Du (ss.map Ye) (JF (c31.2.take i.i)))) (fun i=>c31.2.length - i.i) (⟨0,c29,Nat.zero_le _⟩) ⟨rfl,rfl,rfl,rfl,rfl,trivial⟩ ⟨rfl,trivial⟩ subl_r (fun _ h=>h.1.2) (fun i=>?_)
   simp only [List.cons_append,List.nil_append]
   have hi:=i.le
   have hes:=hev (JF (c31.2.take i.i)) (fun t ht=>hsub _ t ht) (by rw [Y3,List.length_take];omega)
   refine J_sr<|QA (QV rfl rfl rfl)<|JS_nt<|QG ?_
   refine QR rfl (fun hc=>?_) (fun hc=>?_)
   ·
    have hlt:i.i<c31.2.length:=by have:=dec_t hc;omega
    have htm:=Jc hlt
    have htA:(el c31.2 i.i).t∈JG (XB a.2):=e31 ▸ List.mem_map_of_mem htm
    have hw1:=hwd _ htA
    have hpw:=hpa _ htA
    have hl1000:=hpw.2
    have hrl:=r31 _ htm
    have hct:=oa.sz _ htA
    refine QP<|QC<|QG<|Qa<|J_sr<|QA (Ja (n:=c31.1.n) (i.i) (fun F ⟨⟨⟨⟨⟨⟨⟨hGl,hR,hA,hS⟩,_⟩,_⟩,⟨h28,h28_⟩⟩,h29⟩,h31⟩,hO⟩=>(h31).1) rfl rfl J1 Jd (by omega))<|QA (X2 (n:=c31.1.n) (vs:=[.int .i64 (el c31.2 (i.i)).x.n.s,.slice (el c31.2 (i.i)).x.n.q (el c31.2 (i.i)).x.n.n (el c31.2 (i.i)).x.n.cap,.int .i64 (el c31.2 (i.i)).x.d.s,.slice (el c31.2 (i.i)).x.d.q (el c31.2 (i.i)).x.d.n (el c31.2 (i.i)).x.d.cap,.slice (el c31.2 (i.i)).r.q (el c31.2 (i.i)).r.n (el c31.2 (i.i)).r.cap]) ((i.i)*5) (fun F ⟨⟨⟨⟨⟨⟨⟨hGl,hR,hA,hS⟩,_⟩,_⟩,⟨h28,h28_⟩⟩,h29⟩,h31⟩,hO⟩=>(h31).1) (by omega) rfl Jd rfl (fun j v hv=>XM (f:=Ya) (l:=c31.2) YH (by omega) hv)) ?_
    refine Qb ZW (fun b10=>?_)
    refine QN (vs:=[_,_,_,_,_]) rfl rfl rfl Jd rfl .here (.here (.here (.here (.here (.here .nil))))) ⟨rfl,rfl,rfl,rfl,rfl,trivial⟩<|JS_nt<|J_sr<|QA (QH rfl Z0 Qc)<|QA (QJ (vs:=[_,_,_,_]) rfl Qc .here (.here (.here (.here (.here .nil)))) rfl) ?_
    refine QI rfl (fun w F hF ⟨⟨⟨⟨⟨⟨⟨hGl,hR,hA,hS⟩,_⟩,_⟩,⟨h28,h28_⟩⟩,h29⟩,h31⟩,hO⟩=>KG hF (x:=(el c31.2 i.i).x) (ps:=[]) ((h31.2.1 _ htm).1) (Q9.nil F _ _) (fun p hp=>absurd hp (List.not_mem_nil)) rfl (by omega) ⟨by omega,fun p hp=>absurd hp (List.not_mem_nil)⟩) (fun c39=>?_)
    refine Qb ZA (fun b11=>?_)
    refine QN (vs:=[_,_,_,_,_,_,_,_]) rfl rfl rfl Jj rfl .here (.here (.here (.here (.here (.here (.here (.here (.here .nil)))))))) ⟨rfl,rfl,rfl,rfl,rfl,rfl,rfl,rfl,trivial⟩<|JS_nt<|QG<|J_sr<|QA (QH rfl X4 Qz)<|QA (Qj rfl Qz (.there .here) (.skip (.skip (.skip (.skip (.here .nil))))))<|QA (Ql rfl Qf)<|JS_mv rfl<|JS_nt<|Qa ?_
    refine Jz (ι:=pz (el c31.2 i.i).t.2.length) [(1,_),(4,_),(8,_),(11,_),(31,_),(32,_),(33,_),(41,_),(42,_)] (fun i2=>[(43,.int .i64 ((i2.j:Nat):Int))]) (fun i2=>[(b11,.cells (xA i2.y).toArray 138 (0,0)),(b10,.cells (Ya (el c31.2 i.i)).toArray 165 (0,0)),(b8,.cells (xA i.x).toArray 138 (0,0)),(b4,.cells [tx [],tx []].toArray 24 (0,0))]) (fun i2 F=>Xy F i2.y (G3 ((el c31.2 i.i).t.1,(el c31.2 i.i).t.1) (ss.map Ye) (el c31.2 i.i).t.2 i2.j)) (fun i2=>(el c31.2 i.i).t.2.length - i2.j) (⟨0,c39,Nat.zero_le _⟩) ⟨rfl,rfl,rfl,rfl,rfl,rfl,rfl,rfl,rfl,trivial⟩ ⟨rfl,trivial⟩ subl_r (fun _ h=>h.2) (fun i2=>?_)
    simp only [List.cons_append,List.nil_append]
    have hj:=i2.le
    have hvs:=hvm _ htA i2.j (by omega)
    refine J_sr<|QA (QV rfl rfl rfl)<|JS_nt<|QG ?_
    refine QR rfl (fun hc=>?_) (fun hc=>?_)
    ·
     have hlt2:i2.j<(el c31.2 i.i).t.2.length:=by have:=dec_t hc;omega
     have hls:i2.j<ss.length:=by omega
     have hem:=Jc hls
     have hck:=Z2 (hcs _ hem)
     have hlh:=hl _ hem
     have hbx:=hss _ hem
     have hk12:0≤Qg (el c31.2 i.i).t.2 i2.j∧Qg (el c31.2 i.i).t.2 i2.j≤12:=by rw [Xp hlt2];exact hpk _ htA _ (Jc hlt2)
     have hpz:=Sv hbx hk12.2
     refine QP<|QC<|QG<|Qa<|J_sr<|JS_mv rfl<|QA (Ja (n:=(el c31.2 i.i).r.n) (i2.j) (fun F ⟨⟨⟨⟨⟨⟨⟨⟨⟨hGl,hR,hA,hS⟩,_⟩,_⟩,⟨h28,h28_⟩⟩,h29⟩,h31⟩,hO⟩,h39⟩,hY⟩=>((h31.2.1 _ htm).2).1) rfl rfl Qf Qp (by omega))<|QA (Jk (n:=(el c31.2 i.i).r.n) ((i2.j)*1) (fun F ⟨⟨⟨⟨⟨⟨⟨⟨⟨hGl,hR,hA,hS⟩,_⟩,_⟩,⟨h28,h28_⟩⟩,h29⟩,h31⟩,hO⟩,h39⟩,hY⟩=>((h31.2.1 _ htm).2).1) (by omega) rfl Qp (JO (o:=(el c31.2 i.i).t.2) (by omega)))<|JS_as rfl<|JS_as rfl<|JS_nt<|J_sr<|JS_mv rfl<|QA (QV rfl rfl rfl)<|QE<|QC ?_
     refine QR rfl (fun hc=>?_) (fun hc=>?_)
     ·
      have hpos:Qg (el c31.2 i.i).t.2 i2.j>0:=dec_t hc
      refine Xv 9 subl_r mixed (by kernel_rfl) (by kernel_rfl) ?_
      simp only [List.take_succ_cons,List.take_zero,List.drop_succ_cons,List.drop_zero]
      refine QK (QJ (vs:=[_,_,_,_,_,_,_,_]) rfl Jj .here (.here (.here (.here (.here (.here (.here (.here (.here .nil)))))))) rfl)<|QK (QD rfl)<|QK (QD rfl)<|QK (Ja (n:=n) (i2.j) (fun F ⟨⟨⟨⟨⟨⟨⟨⟨⟨hGl,hR,hA,hS⟩,_⟩,_⟩,⟨h28,h28_⟩⟩,h29⟩,h31⟩,hO⟩,h39⟩,hY⟩=>hS) rfl rfl SZ JC (by omega))<|QK (X2 (n:=n) (vs:=[tx (el ss (i2.j)).1,tx (el ss (i2.j)).2]) ((i2.j)*2) (fun F ⟨⟨⟨⟨⟨⟨⟨⟨⟨hGl,hR,hA,hS⟩,_⟩,_⟩,⟨h28,h28_⟩⟩,h29⟩,h31⟩,hO⟩,h39⟩,hY⟩=>hS) (by omega) rfl JC rfl (fun j v hv=>XM (f:=SX) (l:=ss) (fun _=>rfl) (by omega) hv)) ?_
      refine QY rfl (fun w F hF ⟨⟨⟨⟨⟨⟨⟨⟨⟨hGl,hR,hA,hS⟩,_⟩,_⟩,⟨h28,h28_⟩⟩,h29⟩,h31⟩,hO⟩,h39⟩,hY⟩=>Yx hF hGl hck.1 hck.2.1 hlh) (fun c55=>?_)
      refine QK (QD rfl) ?_
      refine QY rfl (fun w F hF ⟨⟨⟨⟨⟨⟨⟨⟨⟨⟨hGl,hR,hA,hS⟩,_⟩,_⟩,⟨h28,h28_⟩⟩,h29⟩,h31⟩,hO⟩,h39⟩,hY⟩,h55⟩=>SV (x:=c55) (a:=Ye (el ss i2.j)) (n:=Qg (el c31.2 i.i).t.2 i2.j) hF h55 hk12 ⟨Nat.le_trans hbx.1 (by decide),Nat.le_trans hbx.2 (by decide)⟩) (fun c57=>?_)
      refine QY rfl (fun w F hF ⟨⟨⟨⟨⟨⟨⟨⟨⟨⟨⟨hGl,hR,hA,hS⟩,_⟩,_⟩,⟨h28,h28_⟩⟩,h29⟩,h31⟩,hO⟩,h39⟩,hY⟩,h55⟩,h57⟩=>SU (x:=i2.y) (y:=c57) hF hY h57 ⟨Nat.le_trans hvs.1 (by omega),Nat.le_trans hvs.2 (by omega)⟩ ⟨Nat.le_trans hpz.1 (by decide),Nat.le_trans hpz.2 (by decide)⟩) (fun c58=>?_)
      refine VL<|QN (vs:=[_,_,_,_,_,_,_,_]) rfl rfl rfl Jj rfl .here (.here (.here (.here (.here (.here (.here (.here (.here .nil)))))))) ⟨rfl,rfl,rfl,rfl,rfl,rfl,rfl,rfl,trivial⟩<|QE<|Qk<|QC<|QB<|QA (Qu rfl rfl (by omega))<|JS_mv rfl<|QE ?_
      exact Qo (⟨i2.j+1,c58,hlt2⟩) (by show(el c31.2 i.i).t.2.length - (i2.j+1)<(el c31.2 i.i).t.2.length - i2.j;omega) ⟨rfl,rfl,rfl,rfl,rfl,rfl,rfl,rfl,rfl,rfl,trivial⟩ subl_r (fun F ⟨⟨⟨⟨hB,_⟩,_⟩,_⟩,h58⟩=>⟨hB,by show Xy F c58 (G3 _ (ss.map Ye) _ (i2.j+1));rw [Bq,if_pos hpos,F6 hls];exact h58⟩)
     ·
      have hpos:¬ Qg (el c31.2 i.i).t.2 i2.j>0:=dec_f hc
      refine QP<|Qk<|QC<|QB<|QA (Qu rfl rfl (by omega))<|JS_mv rfl<|QE ?_
      exact Qo (⟨i2.j+1,i2.y,hlt2⟩) (by show(el c31.2 i.i).t.2.length - (i2.j+1)<(el c31.2 i.i).t.2.length - i2.j;omega) ⟨rfl,rfl,rfl,rfl,rfl,rfl,rfl,rfl,rfl,rfl,trivial⟩ subl_r (fun F ⟨hB,hY⟩=>⟨hB,by show Xy F i2.y (G3 _ (ss.map Ye) _ (i2.j+1));rw [Bq,if_neg hpos];exact hY⟩)
    ·
     have hge2:i2.j=(el c31.2 i.i).t.2.length:=by have:=dec_f hc;omega
     refine Q5 ?_
     repeat (first | refine Qd ?_ | refine QW (by rfl) ?_)
     refine Qe<|QC<|QB<|QA (QJ (vs:=[_,_,_,_,_,_,_,_]) rfl Jj (.there (.there .here)) (.here (.here (.here (.here (.here (.here (.here (.here .nil)))))))) rfl)<|QA (QJ (vs:=[_,_,_,_,_,_,_,_]) rfl Jj .here (.here (.here (.here (.here (.here (.here (.here (.here .nil)))))))) rfl) ?_
     refine QI rfl (fun w F hF ⟨⟨⟨⟨⟨⟨⟨⟨⟨hGl,hR,hA,hS⟩,_⟩,_⟩,⟨h28,h28_⟩⟩,h29⟩,h31⟩,hO⟩,h39⟩,hY⟩=>Il (x:=i.x) (y:=i2.y) hF hO hY ⟨Nat.le_trans hes.1 (by decide),Nat.le_trans hes.2 (by decide)⟩ ⟨Nat.le_trans hvs.1 (by omega),Nat.le_trans hvs.2 (by omega)⟩) (fun c62=>?_)
     refine QN (vs:=[_,_,_,_,_,_,_,_]) rfl rfl rfl Jj rfl (.there (.there .here)) (.here (.here (.here (.here (.here (.here (.here (.here .nil)))))))) ⟨rfl,rfl,rfl,rfl,rfl,rfl,rfl,rfl,trivial⟩<|QE<|Qk<|QC<|QB<|QA (Qu rfl rfl (by omega))<|JS_mv rfl<|QE ?_
     exact Qo (⟨i.i+1,c62,hlt⟩) (by show c31.2.length - (i.i+1)<c31.2.length - i.i;omega) ⟨rfl,rfl,rfl,rfl,rfl,rfl,trivial⟩ (.cons _ (.cons _ subl_r)) (fun F ⟨⟨⟨⟨hB,_⟩,_⟩,_⟩,h62⟩=>⟨hB,by show Xy F c62 (Du _ (JF (c31.2.take (i.i+1))));rw [Uz hlt,← hge2];exact h62⟩)
   ·
    have hge:i.i=c31.2.length:=by have:=dec_f hc;omega
    refine Q5 ?_
    repeat (first | refine Qd ?_ | refine QW (by rfl) ?_)
    refine Qe<|QC<|J_sr<|QA (QJ (vs:=[_,_,_,_,_,_,_,_]) rfl Jj .here (.here (.here (.here (.here (.here (.here (.here (.here .nil)))))))) rfl) ?_
    refine QI rfl (fun w F hF ⟨⟨⟨⟨⟨⟨⟨hGl,hR,hA,hS⟩,_⟩,_⟩,⟨h28,h28_⟩⟩,h29⟩,h31⟩,hO⟩=>EU hF hGl (x:=i.x) hO ⟨Nat.le_trans hes.1 (by decide),Nat.le_trans hes.2 (by decide)⟩) (fun _=>?_)
    rw [hge,List.take_length,e31]
    refine QA (QM rfl rfl)<|QA (QM rfl rfl)<|QN (vs:=[_,_]) rfl rfl rfl JC rfl (.there .here) (.here (.here .nil)) ⟨rfl,rfl,trivial⟩<|JS_as rfl<|JS_nt<|QT ?_
    exact JY (()) rfl (.JU (c:=[_,_]) rfl JC (.there .here) (.tmp rfl .nil)) (by unfold xw;rw [hn,if_pos hc0,if_pos hd0];rfl) (fun F ⟨⟨⟨⟨⟨⟨⟨⟨hGl,hR,hA,hS⟩,_⟩,_⟩,⟨h28,h28_⟩⟩,h29⟩,h31⟩,hO⟩,_⟩=>trivial)
end
section
open Go.RowKit Ig
def Yq (f:List UInt8) (b:Nat) (k:List Int):GA:=⟨f,⟨some ⟨b,0,none⟩,k.length,k.length⟩,k⟩
def Mm (b:Nat) (ts:List GA):Ku:=(⟨some ⟨b,0,none⟩,ts.length,ts.length⟩,ts)
theorem J3 {F:Gs} {b:Nat} {k:List Int} {T:TypeId} (h:F b=some ((k.map Qx).toArray,T)):JP F ⟨some ⟨b,0,none⟩,k.length,k.length⟩ k:=⟨Q9.of h (by simp),rfl,Nat.le_refl _⟩
theorem OB {b:Nat} {ts:List GA} (h:∀ t∈ts,t.f.length≤1000000∧t.k.length≤1000000) (hl:ts.length≤1000000):VN (Mm b ts):=⟨rfl,h,hl⟩
theorem VK.gZ {F:Gs} {s:Sr} {ts:List GA} {p:Pt} (h:VK F s ts p) (hp:∀ e∈p,e.1.length≤1000000∧e.2.length≤1000000) (hl:p.length≤1000000):VN (s,ts):=by
 refine⟨h.2.2.2.2,fun t ht=>?_,?_⟩
 ·have:(t.f,t.k)∈XB ts:=List.mem_map.2 ⟨t,ht,rfl⟩
  rw [h.2.2.1] at this
  exact hp _ this
 ·have:=congrArg List.length h.2.2.1
  simp only [XB,List.length_map] at this
  show ts.length≤_
  omega
theorem S8 {w:World} {F:Gs} {a b:Ku} {v:Int} {P Q R:Pt} (hF:Fits F w) (hGl:JB F) (hA:YD F [a,b]) (ht:∀ e∈[a,b],VN e) (hP:XB a.2=P) (hQ:XB b.2=Q) (hc:Zg v=0) (h1:Xs P v=0) (h2:Xs Q v=0) (h3:Bz (XC (Jg (JG P) (JG Q)))=0) (h4:Nl (XC (Jg (JG P) (JG Q)))=R) :
  QS Tryz.prog 40 [a.1.v,b.1.v,.int .i64 v] w F (fun(c:Ku)=>.tuple #[c.1.v,.int .i64 0]) (fun c F=>VK F c.1 c.2 R):=by
 have h:=Fp hF hGl hA ht (v:=v)
 have e:Vv [a,b] v=0:=by simp [Vv,hc,hP,hQ,h1,h2,Qm]
 rw [gC,gB,if_pos e,if_pos e,hP,hQ,h3,h4] at h
 exact h
theorem NB {w:World} {F:Gs} {a:Ku} {n v:Int} {P R:Pt} (hF:Fits F w) (hGl:JB F) (hA:YD F [a]) (ht:∀ e∈[a],VN e) (hP:XB a.2=P) (hc:Zg n=0) (h1:Xs P n=0) (hv:vE v n=0) (h3:Bz (XC (KS v.toNat (JG P)))=0) (h4:Nl (XC (KS v.toNat (JG P)))=R) :
  QS Tryz.prog 41 [a.1.v,.int .i64 n,.int .i64 v] w F (fun(c:Ku)=>.tuple #[c.1.v,.int .i64 0]) (fun c F=>VK F c.1 c.2 R):=by
 have h:=Rt hF hGl hA ht (n:=n) (v:=v)
 have e:Qm [Vv [a] n,vE v n]=0:=by simp [Vv,hc,hP,h1,hv,Qm]
 rw [yO,yN,if_pos e,if_pos e,hP,h3,h4] at h
 exact h
theorem Tn {w:World} {F:Gs} {a:Ku} {q:Option Addr} {n cap:Nat} {ls:List Ku} {v u:Int} {P R:Pt} {Ws:List Pt} (hF:Fits F w) (hGl:JB F) (hA:YD F [a]) (hta:VN a) (hR:Q9 F q n 1 (ls.map fun e=>e.1.v)) (hL:YD F ls) (hn:ls.length=n) (ht:∀ e∈ls,VN e) (hP:XB a.2=P) (hW:(ls.map fun e=>XB e.2)=Ws)
  (hv:0≤v∧v≤24) (hu:0≤u∧u≤24) (ha:Xs P v=0) (hnv:(n:Int)=v+1) (hall:Qm (Ws.map fun e=>Xs e u)=0) (ho:FH (Ws.map JG) (u+1).toNat (JG P)) (h3:Bz (WM (Ws.map JG) (u+1).toNat (JG P))=0) (h4:Nl (WM (Ws.map JG) (u+1).toNat (JG P))=R) :
  QS Tryz.prog 44 [a.1.v,.int .i64 v,.slice q n cap,.int .i64 u] w F (fun(c:Ku)=>.tuple #[c.1.v,.int .i64 0]) (fun c F=>VK F c.1 c.2 R):=by
 have e1:AP ls=Ws.map JG:=by rw [← hW,List.map_map];rfl
 have e2:Vv ls u=0:=by
  unfold Vv
  rw [if_pos ((Ks u).2 hu),← hall,← hW,List.map_map];rfl
 have h:=IF hF hGl hA hta hR hL hn ht hv hu (by rw [hP];exact ha) hnv e2 (by rw [e1,hP];exact ho) (q:=q) (cap:=cap)
 rw [e1,hP,h3,h4] at h
 exact h
end
section
open Go.RowKit Ig
structure Bd (p:List Tm) (k c z:Nat) (d:Int):Prop where
 can:Canon p
 wd:Ys k p
 nn:∀ t∈p,(∀ x∈t.2,0≤x)∧t.2.sum≤d
 ln:p.length≤c
 sz:∀ t∈p,JL t.1≤z
theorem P8:∀ {l:List Int},(∀ x∈l,0≤x)→0≤l.sum
 |[],_=>Int.le_refl _
 |a::l,h=>by
  have h1:=P8 (l:=l) fun x hx=>h x (List.mem_cons_of_mem _ hx)
  have h2:=h a List.mem_cons_self
  rw [List.sum_cons];omega
theorem PA:∀ k,(List.replicate k (0:Int)).sum=0
 |0=>rfl
 |k+1=>by rw [List.replicate_succ,List.sum_cons,PA k];rfl
theorem Ur {l:List Int} (h:∀ x∈l,0≤x):∀ x∈l,x≤l.sum:=by
 induction l with
 |nil=>intro x hx;cases hx
 |cons a l ih =>
  intro x hx
  have h0:0≤l.sum:=P8 (fun y hy=>h y (List.mem_cons_of_mem _ hy))
  have ha:=h a List.mem_cons_self
  rw [List.sum_cons]
  rcases List.mem_cons.1 hx with rfl | hx
  ·omega
  ·have:=ih (fun y hy=>h y (List.mem_cons_of_mem _ hy)) x hx;omega
theorem Bd.pw {p:List Tm} {k c z:Nat} {d:Int} (h:Bd p k c z d) (hk:k≤1000) (hd:d≤1000000):∀ t∈p,PW t.2:=fun t ht=>by
 obtain ⟨h1,h2⟩:=h.nn t ht
 exact⟨fun x hx=>⟨h1 x hx,by have:=Ur h1 x hx;omega⟩,by rw [h.wd t ht];exact hk⟩
theorem Bd.mono {p:List Tm} {k c z c' z':Nat} {d d':Int} (h:Bd p k c z d) (hc:c≤c') (hz:z≤z') (hd:d≤d'):Bd p k c' z' d' :=
 ⟨h.can,h.wd,fun t ht=>⟨(h.nn t ht).1,Int.le_trans (h.nn t ht).2 hd⟩,Nat.le_trans h.ln hc,fun t ht=>Nat.le_trans (h.sz t ht) hz⟩
theorem Wz {q:List Tm} (hq:Canon q) {z:Nat} (hz:∀ t∈q,JL t.1≤z) (h1:1≤z) (x:List Int):JL (Jl q x)≤z:=by
 by_cases h:∃ t∈q,t.2=x
 ·obtain ⟨t,ht,rfl⟩:=h
  rw [WO hq ht];exact hz t ht
 ·rw [Y0 fun t ht e=>h ⟨t,ht,e⟩]
  exact Nat.le_trans (by decide) h1
theorem Bc {n z1 z2:Nat} {q:List Tm} (hq:Canon q) (hwq:Ys n q) (hz:∀ t∈q,JL t.1≤z2) (h1:1≤z2) (x:List Int):∀ (p:List Tm),Ys n p→(∀ t∈p,JL t.1≤z1)→JL (Jl (Jg p q) x)≤p.length*(z1+z2+1)+1
 |[],_,_=>by show JL (0:Rat)≤_;exact Nat.le_trans (by decide) (Nat.le_add_left 1 _)
 |s::p,hw,hs=>by
  have ih:=Bc hq hwq hz h1 x p hw.tail fun t ht=>hs t (List.mem_cons_of_mem _ ht)
  rw [V9,KF,To (hw s List.mem_cons_self) hwq,List.length_cons,Nat.add_mul,Nat.one_mul]
  split
  ·have h2:=KN (s.1*Jl q (UM x s.2)) (Jl (Jg p q) x)
   have h3:=XA s.1 (Jl q (UM x s.2))
   have h4:=Wz hq hz h1 (UM x s.2)
   have h5:=hs s List.mem_cons_self
   omega
  ·rw [Rat.zero_add];omega
theorem FC {a b:List Int} (h:a.length=b.length) (ha:∀ x∈a,0≤x) (hb:∀ x∈b,0≤x):(∀ x∈Xj a b,0≤x)∧(Xj a b).sum=a.sum+b.sum:=by
 induction a generalizing b with
 |nil=>cases b with
  |nil=>exact⟨fun x hx=>(by cases hx),rfl⟩
  |cons y b=>simp at h
 |cons x a ih=>cases b with
  |nil=>simp at h
  |cons y b =>
   have:=ih (b:=b) (by simpa using h) (fun x hx=>ha x (List.mem_cons_of_mem _ hx)) (fun x hx=>hb x (List.mem_cons_of_mem _ hx))
   have h1:=ha x List.mem_cons_self
   have h2:=hb y List.mem_cons_self
   show(∀ z∈(x+y)::Xj a b,0≤z)∧((x+y)::Xj a b).sum=_
   refine⟨fun z hz=>?_,?_⟩
   ·rcases List.mem_cons.1 hz with rfl | hz
    ·omega
    ·exact this.1 z hz
   ·rw [List.sum_cons,this.2,List.sum_cons,List.sum_cons];omega
theorem Bd.xL {p q:List Tm} {k c1 z1 c2 z2:Nat} {d1 d2:Int} (hp:Bd p k c1 z1 d1) (hq:Bd q k c2 z2 d2):∀ t∈Jg p q,t.2.length=k∧(∀ x∈t.2,0≤x)∧t.2.sum≤d1+d2:=fun t ht=>by
 obtain ⟨s,hs,u,hu,e⟩:=Pa ht
 have h1:=hp.wd s hs
 have h2:=hq.wd u hu
 obtain ⟨h3,h4⟩:=FC (by omega) (hp.nn s hs).1 (hq.nn u hu).1
 rw [e]
 have h5:=(hp.nn s hs).2
 have h6:=(hq.nn u hu).2
 exact⟨by rw [KH (by omega)];exact h1,h3,by omega⟩
theorem Bd.mul {p q:List Tm} {k c1 z1 c2 z2:Nat} {d1 d2:Int} (hp:Bd p k c1 z1 d1) (hq:Bd q k c2 z2 d2) (h2:1≤z2):Bd (XC (Jg p q)) k (c1*c2) (c1*(z1+z2+1)+1) (d1+d2) where
 can:=YY _
 wd:=(hp.wd.Jg hq.wd).XC
 nn:=fun t ht=>by
  obtain ⟨y,hy,e⟩:=B6 ht
  rw [← e];exact(hp.xL hq y hy).2
 ln:=by
  have h1:=Vr (Jg p q)
  rw [V8] at h1
  exact Nat.le_trans h1 (Nat.mul_le_mul hp.ln hq.ln)
 sz:=fun t ht=>by
  rw [← WO (YY _) ht,WK]
  have h1:=Bc hq.can hq.wd hq.sz h2 t.2 p hp.wd hp.sz
  have h3:p.length*(z1+z2+1)≤c1*(z1+z2+1):=Nat.mul_le_mul_right _ hp.ln
  omega
theorem Bd.Zb {p:List Tm} {k c z:Nat} {d:Int} (h:Bd p k c z d):YtknegjaeoffnbaaGreatDoor.Zb p≤c*(z+1):=Nat.le_trans (Bu h.sz) (Nat.mul_le_mul_right _ h.ln)
theorem Bd.jb {p q:List Tm} {k c1 z1 c2 z2:Nat} {d1 d2:Int} (hp:Bd p k c1 z1 d1) (hq:Bd q k c2 z2 d2) (hk:k≤1000) (h1:c1≤10000) (h2:c2≤10000) (hd:d1+d2≤1000000) (hd1:d1≤1000000) (hd2:d2≤1000000) (hs1:c1*(z1+1)≤20000000) (hs2:c2*(z2+1)≤20000000) (hs:c1*c2*(z1+z2+1)≤40000000):Bj p q k where
 wp:=hp.wd
 wq:=hq.wd
 lp:=Nat.le_trans hp.ln h1
 lq:=Nat.le_trans hq.ln h2
 pp:=hp.pw hk hd1
 pq:=hq.pw hk hd2
 pm:=fun s hs t ht=>by
  have h1:=hp.wd s hs
  have h2:=hq.wd t ht
  obtain ⟨h3,h4⟩:=FC (by omega) (hp.nn s hs).1 (hq.nn t ht).1
  have h5:=(hp.nn s hs).2
  have h6:=(hq.nn t ht).2
  exact⟨fun x hx=>⟨h3 x hx,by have:=Ur h3 x hx;omega⟩,by rw [KH (by omega),h1];exact hk⟩
 zp:=Nat.le_trans hp.Zb hs1
 zq:=Nat.le_trans hq.Zb hs2
 zm:=by
  have h3:=Bu (l:=Jg p q) (k:=z1+z2) fun t ht=>by
   unfold Jg XP at ht
   obtain ⟨s,hs,h1⟩:=List.mem_flatMap.1 ht
   obtain ⟨u,hu,rfl⟩:=List.mem_map.1 h1
   have:=XA s.1 u.1
   have:=hp.sz s hs
   have:=hq.sz u hu
   show JL (s.1*u.1)≤_
   omega
  rw [V8] at h3
  have h4:p.length*q.length≤c1*c2:=Nat.mul_le_mul hp.ln hq.ln
  have h5:p.length*q.length*(z1+z2+1)≤c1*c2*(z1+z2+1):=Nat.mul_le_mul_right _ h4
  omega
theorem Bd.const (a:Rat) (k:Nat):Bd (VB a k) k 1 (JL a) 0:=by
 unfold VB
 by_cases h:a=0
 ·rw [if_pos h]
  exact⟨Canon.nil,fun _ h=>(by cases h),fun _ h=>(by cases h),Nat.zero_le _,fun _ h=>(by cases h)⟩
 ·rw [if_neg h]
  refine⟨⟨by simp,fun t ht=>by rw [List.mem_singleton.1 ht];exact h⟩,fun t ht=>by rw [List.mem_singleton.1 ht];simp,fun t ht=>?_,by simp,fun t ht=>by rw [List.mem_singleton.1 ht];exact Nat.le_refl _⟩
  rw [List.mem_singleton.1 ht]
  refine⟨fun x hx=>?_,?_⟩
  ·rw [List.eq_of_mem_replicate hx];exact Int.le_refl _
  ·show(List.replicate k (0:Int)).sum≤0
   rw [PA];exact Int.le_refl _
theorem NM:∀ (a:List Int),Xj a (List.replicate a.length 0)=a
 |[]=>rfl
 |x::a=>by
  show(x+0)::Xj a (List.replicate a.length 0)=_
  rw [NM a,Int.add_zero]
theorem Li {p:List Tm} {k:Nat} (hw:Ys k p):Jg p (VB 1 k)=p:=by
 rw [show VB 1 k=[(1,List.replicate k 0)] from by unfold VB;rw [if_neg (by decide)]]
 induction p with
 |nil=>rfl
 |cons t p ih =>
  rw [V9,ih hw.tail]
  have:=hw t List.mem_cons_self
  show [(t.1*1,Xj t.2 (List.replicate k 0))]++p=_
  rw [Rat.mul_one,← this,NM];rfl
theorem Bd.pow {w:List Tm} {k z:Nat} (h:Bd w k 3 z 2) (hz:1≤z):Bd (WA w k 0) k 1 1 0∧Bd (WA w k 1) k 3 (z+4) 2∧Bd (WA w k 2) k 9 (6*z+20) 4:=by
 have h0:Bd (WA w k 0) k 1 1 0:=(Bd.const 1 k).mono (Nat.le_refl _) (by decide) (Int.le_refl _)
 have h1:Bd (WA w k 1) k 3 (z+4) 2:=(h0.mul h hz).mono (by omega) (by omega) (by omega)
 exact⟨h0,h1,(h1.mul h hz).mono (by omega) (by omega) (by omega)⟩
end
end Go.Proofs.YtknegjaeoffnbaaGreatDoor
