/- Steps of the proof of the theorem in the last file. -/
import Derived.Test.YtknegjaeoffnbaaGreatDoorS0
import Derived.Test.YtknegjaeoffnbaaGreatDoorProg
import Derived.KernelRfl
import Derived.Lib.ItoaNum
import Derived.Lib.Atoi
import Derived.Lib.Repeat
import Derived.Lib.IndexMore
import Derived.Laws.IdiomArrays
set_option linter.all false
set_option maxHeartbeats 4000000
open Go.Lib renaming trimPrefix → aa,decDigits → aj,hasPrefix → az
open Go.Value renaming bool → ab,int → ah,okWide → bz
open List renaming cons_append → ae,nil_append → af,mem_cons_self → ai,replicate → ao,take_length → ar,mem_cons_of_mem → av,length_take → aw,eq_nil_of_length_eq_zero → ax,length_cons → aF,length_map → aG,getElem?_eq_getElem → aH,length_drop → aI,length_append → aN,map_cons → aS,append_assoc → aX,length_set → ba,foldl_cons → bc,take_of_length_le → bA,drop_of_length_le → bB,drop_zero → bF,sum_cons → bG,foldl_append → bI,flatMap_cons → bJ,any_eq_false → bK,not_mem_nil → bP,getElem_mem → bQ,map_append → bU,getElem?_append_right → bW,mem_or_eq_of_mem_set → bY,getElem?_append_left → bZ,mem_cons → cb,map_map → ee,any_map → ef,set_getElem_self → ep,perm_append_comm → er,getElem?_toArray → eu,mem_of_mem_take → ez,length → eB,take_succ_cons → eE,map_congr_left → eF,flatMap_append → eG,drop_succ_cons → eH,drop_append → eS,any_eq_true → eT,length_nil → eU,isPrefixOf → eV,append_nil → eW,take_zero → e8,set_set → fg
open Rat renaming divInt → ag,mul_assoc → aE,mul_one → aM,zero_mul → aO,add_zero → aY,zero_add → bg,add_assoc → bw,pow_succ → bC,pow_zero → bM,add_mul → bT,mul_zero → ej,mul_comm → ek,neg_num → eC,not_le → eN,neg_divInt_neg → eO,neg_den → fq,div_def → fu
open Go renaming World → ak,TypeId → aK,Value → aL,Operand → bV,Program → ei
open Nat renaming le_trans → aq,mul_lt_mul_of_lt_of_lt → au,le_refl → ay,zero_le → aA,mul_le_mul_right → aB,eq_zero_or_pos → aV,gcd → bh,lt_of_lt_of_le → bm,add_mul → bn,lt_or_ge → bE,add_zero → bN,pow_le_pow_right → eD,pow_le_pow_left → eL,lt_of_le_of_lt → eQ,div_le_self → eZ,mul_le_mul → fc,add_assoc → ff,zero_mul → fj,zero_add → fk,sub_self → fm,pow_mul → fv,one_mul → fy
open Bool renaming eq_iff_iff → aC,or_eq_false_iff → aR,and_eq_true → aZ,not_eq_false' → bj,not_eq_true' → bL,not_eq_true → bR,true_and → fe
open And renaming intro → aD
open Int renaming natAbs_mul → aJ,gcd → aP,mul_ne_zero → aU,le_refl → aW,toNat_of_nonneg → bf,natAbs_natCast → bH,toNat_natCast → bO,ediv_le_self → bS,mul_ediv_cancel_left → eb,lt_or_le → ew,gcd_dvd_left → eX,natAbs_tdiv → e9,mul_neg → fz
open Go.DataW renaming trod → aQ,Trod → eK,trod_int → eY
open List.Perm renaming swap → aT,append_left → bX,refl → eI
open List.cons renaming injEq → bt
open Prod.mk renaming inj → bD
open Go.Sem renaming run_bind → ey,run_pure → fp
open Go.Result renaming andThen_ok → eJ
open Go.Instr renaming sliceBounds → eM,sliceBound → eR,sliceAt → fb,slice → fi
open Quotient renaming lift → eP
open Go.World renaming cell? → fh
namespace Go.Proofs.YtknegjaeoffnbaaGreatDoor
theorem QAv:YG Tryz.prog 22=some 16:=by kernel_rfl
theorem E3:Gu Tryz.prog 22=true:=by kernel_rfl
theorem u7:YG Tryz.prog 24=some 32:=by kernel_rfl
theorem cx:YG Tryz.prog 130=some 64:=by kernel_rfl
open Go
theorem Uy (n:Nat):XV (aj n)=true:=by
 rcases aV n with h | h
 ·subst h;rw [Zq];decide
 ·obtain ⟨c,l,e,hc⟩:=UN h
  have:=Jb n
  rw [e] at this ⊢
  simp [XV,this,hc]
open Go.RowKit Ig
theorem kh (r s:Rat):JL (r - s)≤JL r+JL s+1:=by
 rw [Rat.sub_eq_add_neg];have:=Vc r (-s);rw [GB] at this;exact this
section
open Go.RowKit Go.ChangeShapes Go.WideShapes Ig
theorem CT {α:Type} {f:α→List aL} {k off:Nat} {c:Array aL} (hf:∀ x,(f x).length=k):∀ (l:List α) (i0:Nat),(∀ i x,l[i]?=some x→∀ j,j<k→c[off+(i0+i)*k+j]?=(f x)[j]?)→∀ p u,(l.flatMap f)[p]?=some u→c[off+i0*k+p]?=some u
 |[],_,_,p,u,e=>by simp at e
 |x::l,i0,h,p,u,e=>by
  rw [bJ] at e
  rcases bE p k with g | g
  ·rw [bZ (by rw [hf];exact g)] at e
   have:=h 0 x rfl p g
   rw [bN] at this
   rw [this,e]
  ·rw [bW (by rw [hf];exact g),hf] at e
   have:=CT hf l (i0+1) (fun i y hy j hj=>by
    have:=h (i+1) y (by simpa using hy) j hj
    rwa [show i0+(i+1)=i0+1+i by omega] at this) (p - k) u e
   rwa [show off+(i0+1)*k+(p - k)=off+i0*k+p by rw [bn,fy];omega] at this
theorem zf {b off n:Nat}:(⟨b,off,none⟩:Addr).add n=⟨b,off+n,none⟩:=by
 unfold Addr.add
 split
 ·rename_i h;rw [h,bN]
 ·rfl
section
variable {H:Type} {enc:aK×aL→H} {w:ak}
theorem qM {a:Addr} {n:Nat} {cs:List aL} (h:w.cells? 0 a n=some cs):cs.length=n∧∀ i,i<n→w.cell? (a.add i)=cs[i]?:=by
 unfold World.cells? at h
 rw [if_pos (aA _)] at h
 exact⟨by simpa using mapM_some_length h,fun i hi=>by simpa using mapM_some_get h i i (by simp [hi])⟩
theorem qA {fuel:Nat} {cs:List aL} {x:DataW H×List MemPlace} {t e:aK} {sz:Nat} {α:Type} {f:α→List aL} {Q:α→Prop} (ht:Tryz.prog.underlying t=some (.slice e)) (hc:Tryz.prog.cellsOf e=sz) (h0:0<sz) (hf:∀ x,(f x).length=sz)
  (hel:∀ (n:Nat) (cs:List aL) (x:DataW H×List MemPlace),aQ enc Tryz.prog w 0 (fun _=>true) true n e cs=some x→∃ y,cs=f y∧Q y)
  (hh:aQ enc Tryz.prog w 0 (fun _=>true) true fuel t cs=some x) :
  ∃ (q:Option Addr) (n cap:Nat) (l:List α),cs=[.slice q n cap]∧Q6 (Wp w) q n sz (l.flatMap f)∧l.length=n∧n≤9223372036854775807∧(∀ y∈l,Q y)∧n≤cap:=by
 rcases DataW.trod_slice ht hh with ⟨e0,_⟩ | ⟨a',len,cap,elems,rest,n,_,e0,_,_,h1,h2,hlen,hg,_,_⟩
 ·exact⟨none,0,0,[],e0,Q6.nil _ _ _,rfl,aA _,fun y hy=>(by cases hy),ay _⟩
 ·subst e0
  rw [hc] at hg
  have key:∀ i,i<len→∃ y:α,w.cells? 0 (a'.add (i*sz)) sz=some (f y)∧Q y:=fun i hi=>by
   have e:=hg i hi
   rw [aH (by omega),Option.bind_eq_some_iff] at e
   obtain ⟨cs,hcs,htr⟩:=e
   obtain ⟨y,rfl,hq⟩:=hel _ _ _ htr
   exact⟨y,hcs,hq⟩
  have hm:len≤9223372036854775807:=by have:=h2;unfold maxLen at this;omega
  have build:∀ m,m≤len→∃ l:List α,l.length=m∧(∀ i x,l[i]?=some x→w.cells? 0 (a'.add (i*sz)) sz=some (f x))∧∀ y∈l,Q y:=by
   intro m
   induction m with
   |zero=>exact fun _=>⟨[],rfl,fun i x e=>by simp at e,fun y hy=>by cases hy⟩
   |succ m ih =>
    intro hm'
    obtain ⟨l,hl,hx,hQ⟩:=ih (by omega)
    obtain ⟨y,hy,hq⟩:=key m (by omega)
    refine⟨l++[y],by simp [hl],fun i x e=>?_,fun z hz=>by rcases List.mem_append.1 hz with hz | hz;exact hQ z hz;rw [List.mem_singleton.1 hz];exact hq⟩
    rcases bE i m with g | g
    ·rw [bZ (by omega)] at e;exact hx i x e
    ·have:i=m:=by
      have:=(List.getElem?_eq_some_iff.1 e).1
      simp at this;omega
     subst this
     rw [bW (by omega),hl,fm] at e
     simp only [List.getElem?_cons_zero,Option.some.injEq] at e
     rw [← e];exact hy
  obtain ⟨l,hl,hx,hQ⟩:=build len (ay _)
  refine⟨some a',len,cap,l,rfl,⟨?_,fun hn=>?_⟩,hl,hm,hQ,h1⟩
  ·rw [List.length_flatMap]
   have:∀ l:List α,(l.map fun x=>(f x).length).sum=l.length*sz:=fun l=>by
    induction l with
    |nil=>simp
    |cons x l ih=>rw [aS,bG,ih,hf,aF,bn];omega
   rw [this,hl]
  ·have c0:=hx 0 (l[0]'(by omega)) (aH _)
   have g0:=(qM c0).2 0 h0
   have hs:(f (l[0]'(by omega)))[0]?=some ((f (l[0]'(by omega)))[0]'(by rw [hf];exact h0)):=aH _
   rw [hs,fj] at g0
   have ea:(a'.add 0).add 0=a':=rfl
   rw [ea] at g0
   obtain ⟨b',off,spot⟩:=a'
   unfold fh at g0
   split at g0
   ·rename_i c T fr hheap
    split at g0
    ·cases g0
    ·rename_i hsp
     have:spot=none:=by cases spot with
      |none=>rfl
      |some s=>simp at hsp
     subst this
     refine⟨b',off,c,T,rfl,by unfold Wp;rw [hheap],fun j u hu=>?_⟩
     have:=CT (off:=off) (c:=c) hf l 0 (fun i x e j hj=>?_) j u hu
     ·rwa [fj,bN] at this
     ·have:=(qM (hx i x e)).2 j hj
      rw [zf,zf] at this
      unfold fh at this
      rw [hheap] at this
      simpa using this
   ·cases g0
end
end
theorem qB {w:ak} {F:Gs} {s:List UInt8} (hF:Fits F w) (hl:s.length≤9223372036854775807):QZ Tryz.prog 175 [tx s] w F (.bool (XK s)):=by
 refine QT.intro (G:=fun _=>True) Tryz.func175 rfl (by rfl) rfl rfl hF (fun F' hF'=>trivial)<|wE<|wD rfl<|QG<|wE<|wD rfl<|QX<|Xb (ι:=BL s.length (fun i=>(s.take i).all Uo=true)) (fun i=>[(0,tx s),(3,.int .i64 i.i)]) (fun _=>[]) (fun _ _=>True) (fun i=>s.length - i.i) ⟨0,aA _,rfl⟩ wL wG (fun _ h=>trivial) (fun i=>?_)
 have hle:=i.le
 refine QG<|wF rfl<|wA rfl<|QA (XF rfl Xp)<|QA (QU rfl rfl rfl)<|QE<|QC ?_
 refine QQ rfl (fun hc=>?_) (fun hc=>?_)
 ·
  have hi:i.i<s.length:=by simp at hc;omega
  clear hc
  refine QO<|QC<|QG<|QX<|wF rfl<|wA rfl<|QA (WA rfl rfl Xp (hi))<|QA (QU rfl rfl rfl)<|wA rfl ?_
  refine Qn (t:=14) rfl (fun hb14=>?_) (fun hb14=>?_)
  ·
   refine QN rfl rfl rfl<|QN rfl rfl rfl<|QN rfl rfl rfl<|QN rfl rfl rfl<|QA (Qi rfl rfl rfl)<|wC<|GK rfl<|wE<|wD rfl<|QS ?_
   repeat (first | refine JC ?_ | refine Q5 ?_)
   exact QP () rfl (.tmp rfl .nil) (congrArg ab (by rw [SA hi (by have h1:=wI hb14;cases hd:Uo s[i.i] with | false=>rfl | true=>(have:=Ys.1 hd;omega))])) (fun _ _=>trivial)
  ·
   refine QL rfl rfl<|wA rfl<|QL rfl rfl<|wA rfl<|QL rfl rfl<|QA (WA rfl rfl Xp (hi))<|QL rfl rfl<|QA (QU rfl rfl rfl)<|QA (Qh rfl rfl rfl)<|QE<|QC ?_
   refine QQ rfl (fun hc=>?_) (fun hc=>?_)
   ·
    refine wE<|wD rfl<|QS ?_
    repeat (first | refine JC ?_ | refine Q5 ?_)
    exact QP () rfl (.tmp rfl .nil) (congrArg ab (by rw [SA hi (by have h1:=wI hc;cases hd:Uo s[i.i] with | false=>rfl | true=>(have:=Ys.1 hd;omega))])) (fun _ _=>trivial)
   ·
    refine QO<|Qk<|QC<|QB<|wA rfl<|QA (Qs rfl rfl (by omega))<|wB rfl<|QE ?_
    exact Qo (⟨i.i+1,by omega,D4 hi i.h (Ys.2 (by have h1:=wJ hb14;have h2:=wJ hc;constructor<;>omega))⟩:BL s.length (fun i=>(s.take i).all Uo=true)) (by show s.length - (i.i+1)<s.length - i.i;omega) wL wG (fun _ h=>trivial)
 ·
  refine Qz ?_
  repeat (first | refine Qb ?_ | refine QV (by rfl) ?_)
  refine Qc<|QC<|wE<|wD rfl<|QS ?_
  exact QP () rfl (.tmp rfl .nil) (congrArg ab (by have e:=i.h;rw [bA (by simp at hc;omega)] at e;exact e)) (fun _ _=>trivial)
theorem dt {s:List UInt8} (h1:(1:Int)<(s.length:Int)) (h:s[0]'(by omega)=48):XV s=false:=by
 cases s with
 |nil=>simp at h1
 |cons c r =>
  have hc:c=48:=h
  subst hc
  have hr:r≠[]:=by intro e;subst e;simp at h1
  simp [XV,hr]
theorem vp {s:List UInt8} (h1:(1:Int)<(s.length:Int)) (h:¬ s[0]'(by omega)=48):XV s=XK s:=by
 cases s with
 |nil=>simp at h1
 |cons c r =>
  have hc:¬ c=48:=h
  simp [XV,hc]
theorem dp {s:List UInt8} (h0:0<s.length) (h1:s.length≤1):XV s=XK s:=by
 match s,h0,h1 with
 |[c],_,_ =>
  by_cases hc:c=48
  ·subst hc;rfl
  ·simp [XV,hc]
theorem kq {w:ak} {F:Gs} {s:List UInt8} (hF:Fits F w) (hl:s.length≤9223372036854775807):QZ Tryz.prog 118 [tx s] w F (.bool (XV s)):=by
 refine QT.intro (G:=fun _=>True) Tryz.func118 rfl (by rfl) rfl rfl hF (fun F' hF'=>trivial)<|wE<|wD rfl<|QG<|wF rfl<|QA (XF rfl Xp)<|QA (QU rfl rfl rfl)<|wA rfl ?_
 refine Qn (t:=6) rfl (fun hb6=>?_) (fun hb6=>?_)
 ·
  refine QN rfl rfl rfl<|QN rfl rfl rfl<|QN rfl rfl rfl<|QN rfl rfl rfl<|JX rfl rfl<|JX rfl rfl<|JX rfl rfl<|QN rfl rfl rfl<|QA (Qi rfl rfl rfl)<|wC<|GK rfl<|wE<|wD rfl<|QS ?_
  exact QP () rfl (.tmp rfl .nil) (congrArg ab (by have h0:s=[]:=(by simpa using hb6);subst h0;rfl)) (fun _ _=>trivial)
 ·
  refine QL rfl rfl<|wA rfl<|QL rfl rfl<|QA (XF rfl Xp)<|QL rfl rfl<|QA (QU rfl rfl rfl)<|QL rfl rfl<|wA rfl ?_
  refine Qn (t:=10) rfl (fun hb10=>?_) (fun hb10=>?_)
  ·
   refine QL rfl rfl<|wA rfl<|QL rfl rfl<|QA (WA (i:=0) rfl rfl Xp (by have:=wI hb10;omega))<|QL rfl rfl<|QA (QU rfl rfl rfl)<|QL rfl rfl<|QA (Qi rfl rfl rfl)<|QA (Qh rfl rfl rfl)<|QE<|QC ?_
   refine QQ rfl (fun hc=>?_) (fun hc=>?_)
   ·
    refine wE<|wD rfl<|QS ?_
    exact QP () rfl (.tmp rfl .nil) (congrArg ab (dt (wI hb10) (by have h:=hc;rw [E2 (d:=48) (z:=48) rfl] at h;simpa using h))) (fun _ _=>trivial)
   ·
    refine QO<|QC<|wF rfl<|QH rfl (fun w F hF _=>qB hF hl) (fun _=>wD rfl<|QS ?_)
    exact QP () rfl (.tmp rfl .nil) (congrArg ab (vp (wI hb10) (by have h:=hc;rw [E2 (d:=48) (z:=48) rfl] at h;simpa using h))) (fun _ _=>trivial)
  ·
   refine QN rfl rfl rfl<|QN rfl rfl rfl<|QN rfl rfl rfl<|QL rfl rfl<|QA (Qh rfl rfl rfl)<|QA (Qh rfl rfl rfl)<|wC<|YQ rfl<|QO<|QC<|wF rfl<|QH rfl (fun w F hF _=>qB hF hl) (fun _=>wD rfl<|QS ?_)
   exact QP () rfl (.tmp rfl .nil) (congrArg ab (dp (List.length_pos_iff.2 (by simpa using hb6)) (by have h:=wJ hb10;omega))) (fun _ _=>trivial)
def yi (s:List UInt8):List UInt8:=if N7 s<0 then s.drop 1 else if N7 s=0 then s else 45::s
def W5 (s:List UInt8):Int:=if(decide (600<(C1 (numOf s)).length)||decide (600<(UM s).length))=true then 4 else 0
theorem DI (p:UInt8→Bool) (s:List UInt8):ahead p s≤s.length:=(List.takeWhile_sublist _).length_le
theorem FM {s:List UInt8} (h:N7 s<0):0<s.length:=by
 cases s with
 |nil=>exact absurd h (by decide)
 |cons=>simp
theorem Ld {w:ak} {F:Gs} {s:List UInt8} (hF:Fits F w):QZ Tryz.prog 38 [tx s] w F (.int .i64 (N7 s)):=by
 refine QT.intro (G:=fun _=>True) Tryz.func38 rfl (by rfl) rfl rfl hF (fun F' hF'=>trivial)<|wE<|wD rfl<|QG<|wF rfl<|QA (K3 rfl rfl)<|QE<|QC ?_
 refine QQ rfl (fun hc4=>?_) (fun hc4=>?_)
 ·
  refine wE<|wD rfl<|QS ?_
  exact QP () rfl (.tmp rfl .nil) (congrArg (ah .i64) (by unfold N7;rw [if_pos (by simpa using hc4)])) (fun _ _=>trivial)
 ·
  refine QO<|QC<|QG<|wF rfl<|QA (XF rfl E3)<|QA (QU rfl rfl rfl)<|wA rfl ?_
  refine Qn (t:=8) rfl (fun hb8=>?_) (fun hb8=>?_)
  ·
   refine QL rfl rfl<|wA rfl<|QL rfl rfl<|QA (WA (i:=0) rfl rfl E3 (by have:=wI hb8;omega))<|QL rfl rfl<|QA (QU rfl rfl rfl)<|QA (Qi rfl rfl rfl)<|QE<|QC ?_
   refine QQ rfl (fun hc=>?_) (fun hc=>?_)
   ·
    refine wE<|wD rfl<|QS ?_
    exact QP () rfl (.tmp rfl .nil) (congrArg (ah .i64) (by unfold N7;rw [if_neg (by simpa using hc4),if_pos];rw [GY (by have:=wI hb8;omega),← E2 (z:=45) rfl];exact hc)) (fun _ _=>trivial)
   ·
    refine QO<|QC<|wE<|wD rfl<|QS ?_
    exact QP () rfl (.tmp rfl .nil) (congrArg (ah .i64) (by unfold N7;rw [if_neg (by simpa using hc4),if_neg];rw [GY (by have:=wI hb8;omega),← E2 (z:=45) rfl,hc];decide)) (fun _ _=>trivial)
  ·
   refine QN rfl rfl rfl<|QN rfl rfl rfl<|QN rfl rfl rfl<|QA (Qh rfl rfl rfl)<|wC<|YQ rfl<|QO<|QC<|wE<|wD rfl<|QS ?_
   exact QP () rfl (.tmp rfl .nil) (congrArg (ah .i64) (by have h0:s=[]:=(by have:=hb8;simp at this;exact this);subst h0;rfl)) (fun _ _=>trivial)
theorem cM {w:ak} {F:Gs} {s:List UInt8} (hF:Fits F w) (hl:s.length≤1000000000):QZ Tryz.prog 35 [tx s] w F (tx (yi s)):=by
 refine QT.intro (G:=fun _=>True) Tryz.func35 rfl (by rfl) rfl rfl hF (fun F' hF'=>trivial)<|wE<|wD rfl<|QG<|wF rfl<|QH rfl (fun w F hF _=>Ld hF ) (fun _=>QA (QU rfl rfl rfl)<|QE<|QC ?_)
 refine QQ rfl (fun hc5=>?_) (fun hc5=>?_)
 ·
  refine wF rfl<|QA (K4 1 rfl rfl E3 rfl (FM (wI hc5)))<|wD rfl<|QS ?_
  exact QP () rfl (.tmp rfl .nil) (congrArg tx (by unfold yi;rw [if_pos (wI hc5)])) (fun _ _=>trivial)
 ·
  refine QO<|QC<|QG<|wF rfl<|QH rfl (fun w F hF h9=>Ld hF ) (fun _=>QA (QU rfl rfl rfl)<|QE<|QC ?_)
  refine QQ rfl (fun hc10=>?_) (fun hc10=>?_)
  ·
   refine wF rfl<|wD rfl<|QS ?_
   exact QP () rfl (.tmp rfl .nil) (congrArg tx (by unfold yi;rw [if_neg (wJ hc5),if_pos (by simpa using hc10)])) (fun _ _=>trivial)
  ·
   refine QO<|QC<|wF rfl<|QA (Zs rfl rfl (by simp;omega))<|wD rfl<|QS ?_
   exact QP () rfl (.tmp rfl .nil) (congrArg tx (by unfold yi;rw [if_neg (wJ hc5),if_neg (by simpa using hc10)];rfl)) (fun _ _=>trivial)
theorem yM {w:ak} {F:Gs} {s:List UInt8} (hF:Fits F w):QZ Tryz.prog 33 [tx s] w F (tx (C1 s)):=by
 refine QT.intro (G:=fun _=>True) Tryz.func33 rfl (by rfl) rfl rfl hF (fun F' hF'=>trivial)<|wE<|wD rfl<|QG<|wF rfl<|QH rfl (fun w F hF _=>Ld hF ) (fun _=>QA (QU rfl rfl rfl)<|QE<|QC ?_)
 refine QQ rfl (fun hc=>?_) (fun hc=>?_)
 ·
  refine wF rfl<|QA (K4 1 rfl rfl E3 rfl (FM (wI hc)))<|wD rfl<|QS ?_
  exact QP () rfl (.tmp rfl .nil) (congrArg tx (by unfold C1;rw [if_pos (wI hc)])) (fun _ _=>trivial)
 ·
  refine QO<|QC<|wF rfl<|wD rfl<|QS ?_
  exact QP () rfl (.tmp rfl .nil) (congrArg tx (by unfold C1;rw [if_neg (wJ hc)])) (fun _ _=>trivial)
theorem uF {w:ak} {F:Gs} {s:List UInt8} (hF:Fits F w):QZ Tryz.prog 94 [tx s] w F (.bool (s==[48])):=by
 refine QT.intro (G:=fun _=>True) Tryz.func94 rfl (by rfl) rfl rfl hF (fun F' hF'=>trivial)<|wE<|wD rfl<|wF rfl<|QA (K3 rfl rfl)<|wD rfl<|QS ?_
 exact QP () rfl (.tmp rfl .nil) (rfl) (fun _ _=>trivial)
theorem yJ {w:ak} {F:Gs} {s:List UInt8} (hF:Fits F w) (hl:s.length≤1000000000):QZ Tryz.prog 204 [tx s] w F (tx (numOf s)):=by
 refine QT.intro (G:=fun _=>True) Tryz.func204 rfl (by rfl) rfl rfl hF (fun F' hF'=>trivial)<|wE<|wD rfl<|wF rfl<|wA rfl<|QH rfl (fun w F hF _=>ED hF (aq hl (by decide))) (fun _=>QA (Hx (ahead XY s) rfl rfl E3 rfl (DI _ _))<|wD rfl<|QS ?_)
 exact QP () rfl (.tmp rfl .nil) (rfl) (fun _ _=>trivial)
theorem yK {w:ak} {F:Gs} {s:List UInt8} (hF:Fits F w) (hl:s.length≤1000000000):QZ Tryz.prog 205 [tx s] w F (tx (UM s)):=by
 refine QT.intro (G:=fun _=>True) Tryz.func205 rfl (by rfl) rfl rfl hF (fun F' hF'=>trivial)<|wE<|wD rfl<|wF rfl<|QH rfl (fun w F hF _=>ED hF (aq hl (by decide))) (fun _=>wD rfl<|QG<|wF rfl<|wA rfl<|QA (XF rfl E3)<|QA (QU rfl rfl rfl)<|QE<|QC ?_)
 refine QQ rfl (fun hc=>?_) (fun hc=>?_)
 ·
  refine wE<|wD rfl<|QS ?_
  exact QP () rfl (.tmp rfl .nil) (congrArg tx (by unfold UM;rw [if_pos (by simp at hc;omega)])) (fun _ _=>trivial)
 ·
  refine QO<|QC<|wF rfl<|wA rfl<|QA (Qs rfl rfl (by have:=DI XY s;omega))<|QA (K4 (ahead XY s+1) rfl rfl E3 rfl (by have:=DI XY s;simp at hc;omega))<|wD rfl<|QS ?_
  exact QP () rfl (.tmp rfl .nil) (congrArg tx (by unfold UM;rw [if_neg (by simp at hc;omega)])) (fun _ _=>trivial)
theorem xa {w:ak} {F:Gs} {s:List UInt8} (hF:Fits F w) (hl:s.length≤1000000000):QZ Tryz.prog 124 [tx s] w F (.int .i64 (W5 s)):=by
 refine QT.intro (G:=fun _=>True) Tryz.func124 rfl (by rfl) rfl rfl hF (fun F' hF'=>trivial)<|wE<|wD rfl<|QG<|wF rfl<|QH rfl (fun w F hF _=>yJ hF hl) (fun _=>QH rfl (fun w F hF h9=>yM hF ) (fun _=>QA (XF rfl E3)<|QA (QU rfl rfl rfl)<|wA rfl ?_))
 refine Qn (t:=8) rfl (fun hb8=>?_) (fun hb8=>?_)
 ·
  refine QN rfl rfl rfl<|QN rfl rfl rfl<|QN rfl rfl rfl<|QN rfl rfl rfl<|QA (Qi rfl rfl rfl)<|wC<|GK rfl<|wE<|wD rfl<|QS ?_
  exact QP () rfl (.tmp rfl .nil) (congrArg (ah .i64) (by have h:=wI hb8;unfold W5;rw [if_pos (by rw [decide_eq_true (by omega)];rfl)])) (fun _ _=>trivial)
 ·
  refine QL rfl rfl<|wA rfl<|QL rfl rfl<|QH rfl (fun w F hF h9=>yK hF hl) (fun _=>QL rfl rfl<|QA (XF rfl E3)<|QL rfl rfl<|QA (QU rfl rfl rfl)<|QA (Qh rfl rfl rfl)<|QE<|QC ?_)
  refine QQ rfl (fun hc=>?_) (fun hc=>?_)
  ·
   refine wE<|wD rfl<|QS ?_
   exact QP () rfl (.tmp rfl .nil) (congrArg (ah .i64) (by have h:=wI hc;unfold W5;rw [if_pos (by rw [decide_eq_true (show 600<(UM s).length by omega),Bool.or_true])])) (fun _ _=>trivial)
  ·
   refine QO<|QC<|wE<|wD rfl<|QS ?_
   exact QP () rfl (.tmp rfl .nil) (congrArg (ah .i64) (by have h:=wJ hc;have h8:=wJ hb8;unfold W5;rw [if_neg (by rw [decide_eq_false (by omega),decide_eq_false (by omega)];decide)])) (fun _ _=>trivial)
theorem ga {d:Nat} (h:d<10):(([48,49,50,51,52,53,54,55,56,57]:List UInt8).take (d+1)).drop d=[UInt8.ofNat (48+d)]:=by
 match d,h with
 |0,_=>rfl
 |1,_=>rfl
 |2,_=>rfl
 |3,_=>rfl
 |4,_=>rfl
 |5,_=>rfl
 |6,_=>rfl
 |7,_=>rfl
 |8,_=>rfl
 |9,_=>rfl
theorem yL {w:ak} {F:Gs} {n least:Nat} (hF:Fits F w) (hn:n≤9223372036854775807) (hl:least≤1000):QZ Tryz.prog 182 [.int .i64 (n:Int),.int .i64 (least:Int)] w F (tx (N6 n least)):=by
 refine QT.intro (G:=fun _=>True) Tryz.func182 rfl (by rfl) rfl rfl hF (fun F' hF'=>trivial)<|wE<|wD rfl<|wE<|wD rfl<|QG<|QX<|Xb (ι:=C2 n least) (fun i=>[(0,.int .i64 (i.m:Int)),(1,.int .i64 (least:Int)),(5,tx i.t)]) (fun _=>[]) (fun _ _=>True) (fun i=>i.m+(least - i.t.length)) ⟨n,[],ay _,by unfold N6;simp,by have:=CM hn;simp;omega⟩ wM wG (fun _ h=>trivial) (fun i=>?_)
 have hle:=i.le
 have htl:=i.tl
 refine QG<|wF rfl<|QA (QU rfl rfl rfl)<|wA rfl ?_
 refine Qn (t:=8) rfl (fun hb8=>?_) (fun hb8=>?_)
 ·
  refine QN rfl rfl rfl<|QN rfl rfl rfl<|QN rfl rfl rfl<|QN rfl rfl rfl<|QA (Qi rfl rfl rfl)<|wC<|GK rfl<|QO<|QC<|QX<|wF rfl<|QA (Kn rfl rfl (by omega) (by omega))<|wA rfl<|QA (Kn rfl rfl (by omega) (by omega))<|QA (Qs rfl rfl (by omega))<|QA (NB (i.m%10) (i.m%10+1) rfl rfl rfl Xp (.inr rfl) (.inr rfl) (by omega) (by show i.m%10+1≤10;omega)) ?_
  rw [ga (Nat.mod_lt _ (by decide))]
  refine wA rfl<|QA (Zs rfl rfl (by simp;omega))<|wD rfl<|QB<|wA rfl<|QA (W4 rfl rfl (by omega) (by omega) (by omega))<|wB rfl<|QE<|Qk ?_
  exact Qo (C2.next i (Or.inl (by have:=wI hb8;omega):0<i.m∨i.t.length<least)) (by show i.m / 10+(least - (i.t.length+1))<i.m+(least - i.t.length);rcases (Or.inl (by have:=wI hb8;omega):0<i.m∨i.t.length<least) with g | g<;>omega) wM wG (fun _ h=>trivial)
 ·
  refine QL rfl rfl<|wA rfl<|QL rfl rfl<|QA (XF rfl Xp)<|QL rfl rfl<|wA rfl<|QL rfl rfl<|QA (QU rfl rfl rfl)<|QA (Qh rfl rfl rfl)<|QE<|QC ?_
  refine QQ rfl (fun hc=>?_) (fun hc=>?_)
  ·
   refine QO<|QC<|QX<|wF rfl<|QA (Kn rfl rfl (by omega) (by omega))<|wA rfl<|QA (Kn rfl rfl (by omega) (by omega))<|QA (Qs rfl rfl (by omega))<|QA (NB (i.m%10) (i.m%10+1) rfl rfl rfl Xp (.inr rfl) (.inr rfl) (by omega) (by show i.m%10+1≤10;omega)) ?_
   rw [ga (Nat.mod_lt _ (by decide))]
   refine wA rfl<|QA (Zs rfl rfl (by simp;omega))<|wD rfl<|QB<|wA rfl<|QA (W4 rfl rfl (by omega) (by omega) (by omega))<|wB rfl<|QE<|Qk ?_
   exact Qo (C2.next i (Or.inr (by have:=wI hc;omega):0<i.m∨i.t.length<least)) (by show i.m / 10+(least - (i.t.length+1))<i.m+(least - i.t.length);rcases (Or.inr (by have:=wI hc;omega):0<i.m∨i.t.length<least) with g | g<;>omega) wM wG (fun _ h=>trivial)
  ·
   refine Qz ?_
   repeat (first | refine Qb ?_ | refine QV (by rfl) ?_)
   refine Qc<|QC<|wF rfl<|wD rfl<|QS ?_
   exact QP () rfl (.tmp rfl .nil) (congrArg tx (by have h1:=wJ hb8;have h2:=wJ hc;have h0:i.m=0:=(by omega);rw [← i.h,h0];simp [hd,Vf,show least - i.t.length=0 by omega,Lib.repeatL])) (fun _ _=>trivial)
theorem uA {a b out:List Int} {c:Int} (da:DG B9 out) (hl:out.length=a.length) (hb:b.length≤a.length) (h:dv B9 out+dv B9 (b.take a.length)=dv B9 (a.take a.length)+B9^a.length*c) (h0:0≤c) (h1:c≤1) (hle:dv B9 b≤dv B9 a):dv B9 out=dv B9 a - dv B9 b:=by
 rw [ar,bA hb] at h
 have hlt:=YB (b:=B9) (by decide) da
 rw [hl] at hlt
 have hc:c=0∨c=1:=by omega
 rcases hc with rfl | rfl
 ·rw [Int.mul_zero] at h;omega
 ·rw [Int.mul_one] at h;omega
theorem FQ {w:ak} {F:Gs} {ra rb:Sr} {a b:List Int} (hF:Fits F w) (hA:JR F ra a) (hB:JR F rb b) (da:DG B9 a) (db:DG B9 b) (la:a.length≤100000000) (lb:b.length≤a.length) (hle:dv B9 b≤dv B9 a) :
  Mn Tryz.prog 239 [ra.v,rb.v] w F (fun l=>dv B9 l=dv B9 a - dv B9 b∧NZ l∧l.length≤a.length):=by
 obtain ⟨q,n,c⟩:=ra
 have na:=hA.2.1
 have nb:=hB.2.1
 dsimp only at na
 have h9:B9=1000000000:=rfl
 refine QT.intro (G:=fun F=>JR F ⟨q,n,c⟩ a∧JR F rb b) Tryz.func239 rfl (by rfl) rfl rfl hF (fun F' hF'=>⟨hA.le hF',hB.le hF'⟩) ?_
 dsimp only [Sr.v]
 refine wE<|wD rfl<|wE<|wD rfl<|wE<|wD rfl<|QG<|wE<|wD rfl<|QX ?_
 refine Xb (ι:=uk a b) (fun i=>[(0,.slice q n c),(1,.slice rb.q rb.n rb.cap),(5,i.v),(6,.int .i64 i.borrow),(7,.int .i64 (i.i:Int))]) (fun i=>i.ob) (fun _ F=>JR F ⟨q,n,c⟩ a∧JR F rb b) (fun i=>a.length - i.i)
  ⟨0,[],0,.slice none 0 0,[],aA _,rfl,DG.nil _,by decide,by decide,by simp,.nil⟩ wO (List.nil_sublist _) (fun _ h=>h) (fun i=>?_)
 have hile:=i.le
 have hlen:=i.len
 have hc0:=i.c0
 have hc1:=i.c1
 refine QG<|wF rfl<|wA rfl<|QA (Qj rfl Qf)<|QA (QU rfl rfl rfl)<|QE<|QC ?_
 refine QQ rfl (fun hc=>?_) (fun hc=>?_)
 ·
  have hi:i.i<n:=by have:=wI hc;omega
  have hia:i.i<a.length:=by omega
  have b1:=SP da i.i
  have b2:=SP db i.i
  have e1:a[i.i]=a.getD i.i 0:=by simp [hia]
  refine ZA _ (fun w F hF h=>h.1.1.ptr (by dsimp only;omega)) (fun hq=>?_)
  obtain ⟨qb,qo,hq⟩:=hq
  dsimp only at hq
  subst hq
  refine QO<|QC<|QG<|QX<|QG<|JV wG mixed (by kernel_rfl)<|QK (QD rfl)<|QK (QD rfl)<|QK (Qw (i:=i.i) rfl rfl Qf Qp (by omega))<|QK (XX (n:=n) (sz:=1) (cs:=a.map Qy) (u:=.int .i64 (a.getD i.i 0)) rfl Qp (fun F h=>h.1.1) (by omega) (by simp [hia,Qy]))<|QK (QD rfl)<|QK (QD rfl)<|Qd rfl (fun w F hF h9=>Ps (r:=rb) (l:=b) hF h9.2 (by omega)) (fun _=>QK (XB rfl rfl (by omega))<|QK (QD rfl)<|QK (XB rfl rfl (by omega))<|QK (QF rfl)<|Q3<|QC<|wE<|wD rfl<|QG ?_)
  refine wF rfl<|QA (QU rfl rfl rfl)<|QE<|QC ?_
  refine QQ rfl (fun hs=>?_) (fun hs=>?_)
  ·
   refine wF rfl<|QA (Qs rfl rfl (by omega))<|wD rfl<|QB<|wD rfl<|QB<|wA rfl<|wA rfl<|QW rfl (Q8 Qf) Qp Vv rfl rfl (fun b31=>?_)
   refine Kf (bs1:=[]) (ob:=i.ob) (k:=1) (sz:=1) (news:=[.int .i64 ((a.getD i.i 0 - b.getD i.i 0 - i.borrow)+1000000000)]) rfl rfl Qf Qp Vv rfl Dp i.hr (Src.row (off:=0) (fun F h=>h.2) (fun j v hv=>by rw [fk];show([ah .i64 ((a.getD i.i 0 - b.getD i.i 0 - i.borrow)+1000000000)].toArray)[j]?=some v;rw [eu];exact hv) rfl) (by omega) (by omega) (fun u hu=>by rw [List.mem_singleton.1 hu];rfl) (fun v' ob' hr'=>?_)
   refine wB rfl<|QE<|Qk<|QC<|QB<|wA rfl<|QA (Qs rfl rfl (by omega))<|wB rfl<|QE ?_
   exact Qo (⟨i.i+1,i.out++[((a.getD i.i 0 - b.getD i.i 0 - i.borrow)+1000000000)],1,v',ob',by omega,by simp [hlen],i.dg.append (DG.cons (by have:=wI hs;omega) (by have:=wI hs;rw [h9];omega) (DG.nil _)),by decide,by decide,gk hlen i.h (by rw [h9];omega),by simpa [Qy] using hr'⟩:uk a b) (by show a.length - (i.i+1)<a.length - i.i;omega) wO wG (fun F h=>h.1.1)
  ·
   refine QO<|QC<|QB<|wA rfl<|wA rfl<|QW rfl (Q8 Qf) Qp Vv rfl rfl (fun b31=>?_)
   refine Kf (bs1:=[]) (ob:=i.ob) (k:=1) (sz:=1) (news:=[.int .i64 (a.getD i.i 0 - b.getD i.i 0 - i.borrow)]) rfl rfl Qf Qp Vv rfl Dp i.hr (Src.row (off:=0) (fun F h=>h.2) (fun j v hv=>by rw [fk];show([ah .i64 (a.getD i.i 0 - b.getD i.i 0 - i.borrow)].toArray)[j]?=some v;rw [eu];exact hv) rfl) (by omega) (by omega) (fun u hu=>by rw [List.mem_singleton.1 hu];rfl) (fun v' ob' hr'=>?_)
   refine wB rfl<|QE<|Qk<|QC<|QB<|wA rfl<|QA (Qs rfl rfl (by omega))<|wB rfl<|QE ?_
   exact Qo (⟨i.i+1,i.out++[(a.getD i.i 0 - b.getD i.i 0 - i.borrow)],0,v',ob',by omega,by simp [hlen],i.dg.append (DG.cons (by have:=wJ hs;omega) (by have:=wJ hs;rw [h9];omega) (DG.nil _)),by decide,by decide,gk hlen i.h (by rw [h9];omega),by simpa [Qy] using hr'⟩:uk a b) (by show a.length - (i.i+1)<a.length - i.i;omega) wO wG (fun F h=>h.1.1)
 ·
  refine Qz ?_
  repeat (first | refine Qb ?_ | refine QV (by rfl) ?_)
  refine Qc<|QC<|QG ?_
  obtain ⟨r,hv,hrn,hrc,hfix⟩:=Qx.fix (w0:=w) (F0:=F) (bs1:=[]) (G:=fun F=>JR F ⟨q,n,c⟩ a∧JR F rb b) i.hr
  have hex:i.i=a.length:=by have:=wJ hc;omega
  have hlz:=Xz i.out
  refine Ra hfix ?_
  rw [hv]
  refine QB<|wA rfl<|QH rfl (fun w F hF h9=>GD (r:=r) (l:=i.out) hF ⟨by rw [hrn];exact h9.2,hrn.symm,by omega⟩ (by omega)) (fun c34=>wD rfl<|QS ?_)
  exact QP ((⟨r.q,(Q4 i.out).length,r.cap⟩,Q4 i.out):Sr×List Int) rfl (.tmp rfl .nil) rfl (fun F h=>⟨h.2,i.dg.Q4,by show dv B9 (Q4 i.out)=_;rw [XG];exact uA i.dg (by omega) lb (by have e:=i.h;rw [hex] at e;exact e) hc0 hc1 hle,Xi _,by show(Q4 i.out).length≤_;omega⟩)
section
variable {P:ei} {N:Nat} {m:Sl} {S:ak→Prop} {ty:aK}
def qN (P:ei) (T:aK):Bool:=match P.underlying T with
 |some .bool=>true
 |_=>false
theorem ui {T:aK} (h:qN P T=true):P.underlying T=some .bool:=by
 unfold qN at h;split at h
 ·assumption
 ·cases h
theorem OJ {T:aK} (hT:qN P T=true) (a b:Bool) (w:ak):(Op.equal T (.bool a) (.bool b)).run P w = .ok (a==b) w:=by
 have e:∃ n,Op.maxDepth=n+1:=⟨Op.maxDepth - 1,by decide⟩
 obtain ⟨n,e⟩:=e
 unfold Op.equal
 rw [e]
 unfold Op.equalIn
 simp [run_underlying (ui hT)]
theorem cS {T yT:aK} {x y:bV} {a b:Bool} (hT:qN P T=true) (hx:ev m x=some (.bool a)) (hy:ev m y=some (.bool b)):Qt P N m S (.binOp .eql T x y yT) ty (.bool (a==b)):=fun s w _ _ _ _ ha _=>by
 simp only [execOp,ha.ev hx,ha.ev hy,eqGuard,binOp,ey,fp,eJ,OJ hT]
 rfl
theorem cR {T yT:aK} {x y:bV} {a b:Bool} (hT:qN P T=true) (hx:ev m x=some (.bool a)) (hy:ev m y=some (.bool b)):Qt P N m S (.binOp .neq T x y yT) ty (.bool (!(a==b))):=fun s w _ _ _ _ ha _=>by
 simp only [execOp,ha.ev hx,ha.ev hy,eqGuard,binOp,ey,fp,eJ,OJ hT]
 rfl
end
theorem vQ:qN Tryz.prog 4=true:=by kernel_rfl
theorem ue {x y:Int} (h:Zd x y≥0):y≤x:=by
 unfold Zd at h;split at h
 ·omega
 ·split at h<;>omega
theorem xZ {w:ak} {F:Gs} {x:Ri} {zx:Int} (hF:Fits F w) (hx:Vi F x zx) (hz:sz zx≤1000000):Hz Tryz.prog 179 [x.v] w F (-zx):=by
 obtain ⟨xn,⟨xq,xm,xc⟩,xl⟩:=x
 have px:=hx.p
 have lx:=px.len
 have kx:=hx.1.2.1
 have vx:=px.v0
 dsimp only at px lx kx vx
 dsimp only [Ri.v]
 have eqn : -zx=Ww (!xn) xl:=by rw [px.e];cases xn<;>simp [Ww]
 refine QT.intro (G:=fun F=>Vi F ⟨xn,⟨xq,xm,xc⟩,xl⟩ zx) Tryz.func179 rfl (by rfl) rfl rfl hF (fun F' hF'=>hx.le hF')<|wE<|Q2 rfl (vs:=[_,_]) rfl (fun b1=>Qg Yw (fun b2=>wC<|wE<|QA (QI rfl Ki WR)<|QA (Qm rfl WR .u1 .h1)<|QA (Yc rfl)<|QA (QI rfl YF Qv)<|QA (Qm rfl Qv .u1 (.skip .h1))<|QH rfl (fun w F hF hx=>YD hF (r:=⟨xq,xm,xc⟩) (l:=xl) (neg:=!xn) hx.1 (px.dg) (by omega)) (fun c8=>QR (vs:=[_,_]) rfl rfl rfl JW rfl .here .h2 wL<|wC<|QS ?_)))
 exact QP (c8) rfl (.Jd (c:=[_,_]) rfl JW .here .nil) (rfl) (fun F h9=>(by rw [eqn];exact h9.2))
theorem Hp {w:ak} {F:Gs} {x y:Ri} {zx zy:Int} (hF:Fits F w) (hx:Vi F x zx) (hy:Vi F y zy) (hzx:sz zx≤1000000) (hzy:sz zy≤1000000):Hz Tryz.prog 178 [x.v,y.v] w F (zx*zy):=by
 obtain ⟨xn,⟨xq,xm,xc⟩,xl⟩:=x
 have px:=hx.p
 have lx:=px.len
 have kx:=hx.1.2.1
 have vx:=px.v0
 dsimp only at px lx kx vx
 obtain ⟨yn,⟨yq,ym,yc⟩,yl⟩:=y
 have py:=hy.p
 have ly:=py.len
 have ky:=hy.1.2.1
 have vy:=py.v0
 dsimp only at py ly ky vy
 dsimp only [Ri.v]
 refine QT.intro (G:=fun F=>Vi F ⟨xn,⟨xq,xm,xc⟩,xl⟩ zx∧Vi F ⟨yn,⟨yq,ym,yc⟩,yl⟩ zy) Tryz.func178 rfl (by rfl) rfl rfl hF (fun F' hF'=>⟨hx.le hF',hy.le hF'⟩)<|wE<|Q2 rfl (vs:=[_,_]) rfl (fun b2=>Q2 rfl (vs:=[_,_]) rfl (fun b3=>Qg Yw (fun b4=>wC<|QG<|JV (.cons _ (.cons_cons _ (.cons_cons _ .slnil))) mixed (by kernel_rfl)<|QK (QI rfl Ki WR)<|QK (Qm rfl WR .u1 .h1)<|QK (QI rfl Ki WR)<|QK (Qm rfl WR .here .h1)<|QK (cR vQ rfl rfl)<|QK (QI rfl YF Qv)<|QK (Qm rfl Qv .u1 (.skip .h1))<|QK (QI rfl YF Qv)<|QK (Qm rfl Qv .here (.skip .h1)) ?_)))
 refine Qd rfl (fun w F hF h9=>Gw hF (a:=xl) (b:=yl) (ra:=⟨xq,xm,xc⟩) (rb:=⟨yq,ym,yc⟩) h9.1.1 (h9.2.1) (px.dg) (py.dg) (by omega) (by first | omega | (simp;done) | (simp;omega))) (fun c14=>?_);rcases c14 with ⟨v14,l14⟩;dsimp only
 refine Mh _ (fun w F hF ⟨⟨hx,hy⟩,⟨h14,h14p⟩⟩=>aD h14.2 h14p) (fun p14=>?_)
 have eqn:zx*zy=Ww (!(xn==yn)) l14:=by
  have e14:=p14.2.2.1
  rw [px.e,py.e];unfold Ww;rw [e14];cases xn<;>cases yn<;>simp [fz,Int.neg_mul]
 have m14:=p14.2.2.2.2
 refine Qd rfl (fun w F hF h9=>YD hF (r:=v14) (l:=l14) (neg:=!(xn==yn)) h9.2.1 (p14.2.1) (by omega)) (fun c15=>JE (vs:=[_,_]) rfl rfl rfl JW rfl .here (.cons_cons _ (.cons_cons _ .slnil)) (fun _ h=>h.1.1) .h2 wL<|Q3<|QC<|QS ?_)
 exact QP (c15) rfl (.Jd (c:=[_,_]) rfl JW .here .nil) (rfl) (fun F h9=>(by rw [eqn];exact h9.2))
theorem ko {w:ak} {F:Gs} {x y:Ri} {zx zy:Int} (hF:Fits F w) (hx:Vi F x zx) (hy:Vi F y zy) (hzx:sz zx≤1000000) (hzy:sz zy≤1000000):Hz Tryz.prog 177 [x.v,y.v] w F (zx+zy):=by
 obtain ⟨xn,⟨xq,xm,xc⟩,xl⟩:=x
 have px:=hx.p
 have lx:=px.len
 have kx:=hx.1.2.1
 have vx:=px.v0
 dsimp only at px lx kx vx
 obtain ⟨yn,⟨yq,ym,yc⟩,yl⟩:=y
 have py:=hy.p
 have ly:=py.len
 have ky:=hy.1.2.1
 have vy:=py.v0
 dsimp only at py ly ky vy
 dsimp only [Ri.v]
 refine QT.intro (G:=fun F=>Vi F ⟨xn,⟨xq,xm,xc⟩,xl⟩ zx∧Vi F ⟨yn,⟨yq,ym,yc⟩,yl⟩ zy) Tryz.func177 rfl (by rfl) rfl rfl hF (fun F' hF'=>⟨hx.le hF',hy.le hF'⟩)<|wE<|Q2 rfl (vs:=[_,_]) rfl (fun b2=>Q2 rfl (vs:=[_,_]) rfl (fun b3=>Qg Yw (fun b4=>wC<|QG<|wE<|QA (QI rfl Ki WR)<|QA (Qm rfl WR .u2 .h1)<|QA (QI rfl Ki WR)<|QA (Qm rfl WR .u1 .h1)<|QA (cS vQ rfl rfl)<|QE<|QC ?_)))
 refine QQ rfl (fun hc=>?_) (fun hc=>?_)
 ·
  have hne:xn=yn:=by simpa using hc
  refine QG<|JV (.cons _ (.cons_cons _ (.cons_cons _ .slnil))) mixed (by kernel_rfl)<|QK (QI rfl Ki WR)<|QK (Qm rfl WR .u1 .h1)<|QK (QI rfl YF Qv)<|QK (Qm rfl Qv .u1 (.skip .h1))<|QK (QI rfl YF Qv)<|QK (Qm rfl Qv .here (.skip .h1)) ?_
  refine Qd rfl (fun w F hF h9=>MB hF (a:=xl) (b:=yl) (ra:=⟨xq,xm,xc⟩) (rb:=⟨yq,ym,yc⟩) h9.1.1 (h9.2.1) (px.dg) (py.dg) (by omega) (by first | omega | (simp;done) | (simp;omega))) (fun c16=>?_);rcases c16 with ⟨v16,l16⟩;dsimp only
  refine Mh _ (fun w F hF ⟨⟨hx,hy⟩,⟨h16,h16p⟩⟩=>aD h16.2 h16p) (fun p16=>?_)
  have eqn:zx+zy=Ww xn l16:=by
   have e16:=p16.2.2.1
   rw [px.e,py.e,hne];unfold Ww;rw [e16];cases yn<;>simp<;>omega
  have m16:=p16.2.2.2
  refine Qd rfl (fun w F hF h9=>YD hF (r:=v16) (l:=l16) (neg:=xn) h9.2.1 (p16.2.1) (by omega)) (fun c17=>JE (vs:=[_,_]) rfl rfl rfl JW rfl .here (.cons_cons _ (.cons_cons _ .slnil)) (fun _ h=>h.1.1) .h2 wL<|Q3<|QC<|QS ?_)
  exact QP (c17) rfl (.Jd (c:=[_,_]) rfl JW .here .nil) (rfl) (fun F h9=>(by rw [eqn];exact h9.2))
 ·
  have hne:xn=!yn:=by cases xn<;>cases yn<;>simp_all
  refine QO<|QC<|QG<|wE<|QA (QI rfl YF Qv)<|QA (Qm rfl Qv .u2 (.skip .h1))<|QA (QI rfl YF Qv)<|QA (Qm rfl Qv .u1 (.skip .h1))<|QH rfl (fun w F hF h9=>Gy hF (a:=xl) (b:=yl) (ra:=⟨xq,xm,xc⟩) (rb:=⟨yq,ym,yc⟩) h9.1.1 (h9.2.1) (px.dg) (py.dg) (px.nz) (py.nz) (by omega) (by omega)) (fun _=>QA (QU rfl rfl rfl)<|QE<|QC ?_)
  refine QQ rfl (fun hc=>?_) (fun hc=>?_)
  ·
   have hle:dv B9 yl≤dv B9 xl:=ue (wI hc)
   have hll:=Gc py.dg px.dg py.nz hle
   refine QG<|JV (.cons _ (.cons_cons _ (.cons_cons _ .slnil))) mixed (by kernel_rfl)<|QK (QI rfl Ki WR)<|QK (Qm rfl WR .u1 .h1)<|QK (QI rfl YF Qv)<|QK (Qm rfl Qv .u1 (.skip .h1))<|QK (QI rfl YF Qv)<|QK (Qm rfl Qv .here (.skip .h1)) ?_
   refine Qd rfl (fun w F hF h9=>FQ hF (a:=xl) (b:=yl) (ra:=⟨xq,xm,xc⟩) (rb:=⟨yq,ym,yc⟩) h9.1.1.1 (h9.1.2.1) (px.dg) (py.dg) (by omega) (by omega) (hle)) (fun c30=>?_);rcases c30 with ⟨v30,l30⟩;dsimp only
   refine Mh _ (fun w F hF ⟨⟨⟨hx,hy⟩,_⟩,⟨h30,h30p⟩⟩=>aD h30.2 h30p) (fun p30=>?_)
   have eqn:zx+zy=Ww xn l30:=by
    have e30:=p30.2.2.1
    rw [px.e,py.e,hne];unfold Ww;rw [e30];cases yn<;>simp<;>omega
   have m30:=p30.2.2.2
   refine Qd rfl (fun w F hF h9=>YD hF (r:=v30) (l:=l30) (neg:=xn) h9.2.1 (p30.2.1) (by omega)) (fun c31=>JE (vs:=[_,_]) rfl rfl rfl JW rfl .here (.cons_cons _ (.cons_cons _ .slnil)) (fun _ h=>h.1.1) .h2 wL<|Q3<|QC<|QS ?_)
   exact QP (c31) rfl (.Jd (c:=[_,_]) rfl JW .here .nil) (rfl) (fun F h9=>(by rw [eqn];exact h9.2))
  ·
   have hle:dv B9 xl≤dv B9 yl:=zc (wJ hc)
   have hll:=Gc px.dg py.dg px.nz hle
   refine QO<|QC<|QG<|JV (.cons _ (.cons_cons _ (.cons_cons _ .slnil))) mixed (by kernel_rfl)<|QK (QI rfl Ki WR)<|QK (Qm rfl WR .here .h1)<|QK (QI rfl YF Qv)<|QK (Qm rfl Qv .here (.skip .h1))<|QK (QI rfl YF Qv)<|QK (Qm rfl Qv .u1 (.skip .h1)) ?_
   refine Qd rfl (fun w F hF h9=>FQ hF (a:=yl) (b:=xl) (ra:=⟨yq,ym,yc⟩) (rb:=⟨xq,xm,xc⟩) h9.1.2.1 (h9.1.1.1) (py.dg) (px.dg) (by omega) (by omega) (hle)) (fun c38=>?_);rcases c38 with ⟨v38,l38⟩;dsimp only
   refine Mh _ (fun w F hF ⟨⟨⟨hx,hy⟩,_⟩,⟨h38,h38p⟩⟩=>aD h38.2 h38p) (fun p38=>?_)
   have eqn:zx+zy=Ww yn l38:=by
    have e38:=p38.2.2.1
    rw [px.e,py.e,hne];unfold Ww;rw [e38];cases yn<;>simp<;>omega
   have m38:=p38.2.2.2
   refine Qd rfl (fun w F hF h9=>YD hF (r:=v38) (l:=l38) (neg:=yn) h9.2.1 (p38.2.1) (by omega)) (fun c39=>JE (vs:=[_,_]) rfl rfl rfl JW rfl .here (.cons_cons _ (.cons_cons _ .slnil)) (fun _ h=>h.1.1) .h2 wL<|Q3<|QC<|QS ?_)
   exact QP (c39) rfl (.Jd (c:=[_,_]) rfl JW .here .nil) (rfl) (fun F h9=>(by rw [eqn];exact h9.2))
theorem vm (x y:Int):aP y (x%y)=aP x y:=by
 rw [Int.gcd_comm y,Int.emod_def]
 first | rw [Int.gcd_sub_mul_left_left] | rw [Int.gcd_sub_mul_right_left] | rw [Int.gcd_sub_mul_left] | simp
theorem qC {w:ak} {F:Gs} {ra rb:Sr} {a b:List Int} (hF:Fits F w) (hA:JR F ra a) (hB:JR F rb b) (da:DG B9 a) (db:DG B9 b) (za:NZ a) (zb:NZ b) (la:a.length≤10000000) (lb:b.length≤10000000) :
  QT Tryz.prog 120 [ra.v,rb.v] w F (fun(c:Sr×List Int)=>.slice c.1.q c.1.n c.1.cap) (fun c F=>JR F c.1 c.2∧DG B9 c.2∧NZ c.2∧dv B9 c.2=(aP (dv B9 a) (dv B9 b):Int)):=by
 refine QT.intro (G:=fun F=>JR F ra a∧JR F rb b) Tryz.func120 rfl (by rfl) rfl rfl hF (fun F' hF'=>⟨hA.le hF',hB.le hF'⟩)<|wE<|wD rfl<|QG<|QX<|Jz (ι:=QA1 (dv B9 a) (dv B9 b)) [] (fun i=>[(0,.slice i.ra.q i.ra.n i.ra.cap),(1,.slice i.rb.q i.rb.n i.rb.cap)]) (fun i=>[]) (fun i F=>JR F i.ra i.a∧JR F i.rb i.b) (fun i=>(dv B9 i.b).toNat) (⟨ra,rb,a,b,da,db,za,zb,la,lb,hB.2.1,rfl⟩) trivial wL wG (fun F h=>h) (fun i=>?_)
 simp only [ae,af]
 have hla:=i.la
 have hlb:=i.lb
 have hnb:=i.nb
 refine QG<|wF rfl<|QA (Qj rfl Qf)<|QA (QU rfl rfl rfl)<|QE<|QC ?_
 refine QQ rfl (fun hc=>?_) (fun hc=>?_)
 ·
  have hpos:0<dv B9 i.b:=by
   have h1:=Y0 Sw i.db i.zb
   have h2:=Qu JF i.db
   rw [← List.length_eq_zero_iff] at h1
   have:=wI hc
   omega
  have hm0:=Int.emod_nonneg (dv B9 i.a) (Int.ne_of_gt hpos)
  have hm1:=Int.emod_lt_of_pos (dv B9 i.a) hpos
  refine QO<|QC<|QX<|wF rfl<|wA rfl<|QH rfl (fun w F hF h9=>Gx hF (a:=i.a) (b:=i.b) (ra:=i.ra) (rb:=i.rb) h9.2.1 (h9.2.2) (i.da) (i.db) (i.za) (i.zb) (hpos) (by omega) (by omega)) (fun c13=>wA rfl<|QA (QM rfl rfl)<|QA (QM rfl rfl)<|wB rfl<|wD rfl<|ZA _ (fun w F hF h=>aD h.2.2.2 h.2.2.1.2.1) (fun q13=>?_))
  obtain ⟨q13,n13⟩:=q13
  refine QB<|wA rfl<|wA rfl<|wB rfl<|wB rfl<|QE<|Qk ?_
  exact Qo (⟨i.rb,c13.2.1,i.b,c13.2.2,i.db,q13.1,i.zb,q13.2.1,i.lb,by have:=Gc q13.1 i.db q13.2.1 (by rw [q13.2.2];omega);omega,n13,by rw [q13.2.2,vm];exact i.h⟩) (by show(dv B9 c13.2.2).toNat<(dv B9 i.b).toNat;rw [q13.2.2];omega) wL wG (fun F h9=>⟨⟨h9.1.1.1,h9.1.1.2⟩,⟨h9.1.2.2,h9.2.2.1⟩⟩)
 ·
  have hz:i.b=[]:=by
   have:=wJ hc
   exact ax (by omega)
  refine Qz ?_
  repeat (first | refine Qb ?_ | refine QV (by rfl) ?_)
  refine Qc<|QC<|wF rfl<|wD rfl<|QS ?_
  exact QP ((i.ra,i.a):Sr×List Int) rfl (.tmp rfl .nil) (rfl) (fun F h9=>⟨h9.2.1,i.da,i.za,by have e:=i.h;rw [hz,UG,Int.gcd_zero_right] at e;have:=Qu JF i.da;show dv B9 i.a=_;omega⟩)
theorem N8 {w:ak} {F:Gs} {x:Int} {least:Nat} (hF:Fits F w) (h0:0≤x) (hn:x≤9223372036854775807) (hl:least≤1000):QZ Tryz.prog 182 [.int .i64 x,.int .i64 (least:Int)] w F (tx (N6 x.toNat least)):=by
 have:=yL (n:=x.toNat) (least:=least) hF (by omega) hl
 rw [bf h0] at this;exact this
theorem qh {w:ak} {F:Gs} {x:Ri} {zx:Int} (hF:Fits F w) (hx:Vi F x zx) (hz:sz zx≤1000000):QZ Tryz.prog 192 [x.v] w F (tx (X1 zx)):=by
 obtain ⟨xn,⟨xq,xm,xc⟩,xl⟩:=x
 have px:=hx.p
 have lx:=px.len
 have kx:=hx.1.2.1
 have vx:=px.v0
 dsimp only at px lx kx vx
 dsimp only [Ri.v]
 have h9:B9=1000000000:=rfl
 refine QT.intro (G:=fun F=>Vi F ⟨xn,⟨xq,xm,xc⟩,xl⟩ zx) Tryz.func192 rfl (by rfl) rfl rfl hF (fun F' hF'=>hx.le hF')<|wE<|Q2 rfl (vs:=[_,_]) rfl (fun b1=>wD rfl<|QG<|wE<|QA (QI rfl YF Qv)<|QA (Qm rfl Qv .here (.skip .h1))<|QA (Qj rfl Qf)<|QA (QU rfl rfl rfl)<|QE<|QC ?_)
 refine QQ rfl (fun hc=>?_) (fun hc=>?_)
 ·
  have hx0:zx=0:=(px.zero).1 (ax (by have:=hc;simp at this;omega))
  refine wE<|wD rfl<|QS ?_
  exact wH rfl rfl (by rw [hx0,J3 (by decide)];exact congrArg (fun l=>tx l) Zq) (fun F hx=>trivial)
 ·
  have hl0:0<xl.length:=by
   rcases aV xm with g | g
   ·rw [g] at hc;simp at hc
   ·omega
  obtain ⟨d1,d2⟩:=Hy px.dg px.nz hl0
  have b0:=px.dg.Qa JF (xl.length - 1)
  rw [h9] at b0
  refine QO<|QC<|wE<|QA (QI rfl YF Qv)<|QA (Qm rfl Qv .here (.skip .h1))<|QA (QI rfl YF Qv)<|QA (Qm rfl Qv .here (.skip .h1))<|QA (Qj rfl Qf)<|QA (XB rfl rfl (by omega))<|QA (JH (n:=xm) (xl.length - 1) (fun F hx=>(hx.1).1) rfl (congrArg (fun z:Int=>some (ah .i64 z)) (by omega)) Qf Qp (by omega))<|QA (JQ (n:=xm) ((xl.length - 1)*1) (fun F hx=>(hx.1).1) (by omega) rfl Qp (JJ (o:=xl) (by omega)))<|QH rfl (fun w F hF hx=>N8 hF (least:=1) (by omega) (by omega) (by omega)) (fun _=>wD rfl<|QG<|wE<|QA (QI rfl YF Qv)<|QA (Qm rfl Qv .here (.skip .h1))<|QA (Qj rfl Qf)<|QA (XB rfl rfl (by omega))<|wB rfl<|QE ?_)
  refine QC<|QX<|Zc (ι:=xB xl) [(1,_)] (fun i=>[(3,tx i.s),(4,.int .i64 ((i.k:Int) - 1))]) (fun i=>i.k) (xB.start px.dg px.nz hl0) wK ⟨rfl,(congrArg (fun z:Int=>some (ah .i64 z)) (by simp only [xB.start];omega)),trivial⟩ (fun i=>?_)
  simp only [ae,af]
  have hle:=i.le
  have hsl:=i.sl
  refine QG<|wF rfl<|QA (QU rfl rfl rfl)<|QE<|QC ?_
  refine QQ rfl (fun hc=>?_) (fun hc=>?_)
  ·
   have hk0:0<i.k:=by have:=wI hc;omega
   have b1:=px.dg.Qa JF (i.k - 1)
   rw [h9] at b1
   have ln:=D3 (n:=(Qa xl (i.k - 1)).toNat) (by omega)
   refine QO<|QC<|QG<|QX<|QB<|wA rfl<|QA (QI rfl YF Qv)<|QA (Qm rfl Qv .here (.skip .h1))<|wA rfl<|QA (JH (n:=xm) (i.k - 1) (fun F h9=>(h9.1.1).1) rfl (congrArg (fun z:Int=>some (ah .i64 z)) (by omega)) Qf Qp (by omega))<|QA (JQ (n:=xm) ((i.k - 1)*1) (fun F h9=>(h9.1.1).1) (by omega) rfl Qp (JJ (o:=xl) (by omega)))<|QH rfl (fun w F hF h9=>N8 hF (least:=9) (by omega) (by omega) (by omega)) (fun _=>QA (Zs rfl rfl (by omega))<|wB rfl<|QE<|Qk<|QC<|QB<|wA rfl<|QA (XB rfl rfl (by omega))<|wB rfl<|QE ?_)
   exact Qo (i.next px.dg hk0) (by show i.k - 1<i.k;omega) ⟨rfl,rfl,(congrArg (fun z:Int=>some (ah .i64 z)) (by simp only [xB.next];omega)),trivial⟩ wG (fun F h=>h.1)
  ·
   have hk0:i.k=0:=by have:=wJ hc;omega
   have hi:=i.h
   rw [hk0,bF] at hi
   have ha:=px.abs
   refine Qz ?_
   repeat (first | refine Qb ?_ | refine QV (by rfl) ?_)
   refine Qc<|QC<|QG<|wE<|QA (QI rfl Ki WR)<|QA (Qm rfl WR .here .h1)<|QE<|QC ?_
   refine QQ rfl (fun hc=>?_) (fun hc=>?_)
   ·
    have hneg:zx<0:=by have:=px.neg;rw [hc] at this;exact wI this.symm
    refine wF rfl<|QA (Zs rfl rfl (by simp;omega))<|wD rfl<|QS ?_
    exact wH rfl rfl (by rw [YU hneg,hi];exact congrArg (fun n=>tx (45::aj n)) (by omega)) (fun F h9=>trivial)
   ·
    have hneg:¬ zx<0:=by have:=px.neg;rw [hc] at this;exact wJ this.symm
    refine QO<|QC<|wF rfl<|wD rfl<|QS ?_
    exact wH rfl rfl (by rw [J3 (by omega),hi];exact congrArg (fun n=>tx (aj n)) (by omega)) (fun F h9=>trivial)
theorem uW {n d:Int} (h:0<d) {neg:Bool} {l p:List Int} (hn:WO neg l n) (hp:dv B9 p=dv B9 l / (aP n d:Int)):Ww neg p=(ag n d).num:=by
 rw [(K8 h).1]
 have hg:(0:Int)<(aP n d:Int):=by have:=Wf (x:=n) h;omega
 obtain ⟨k,hk⟩:=eX (a:=n) (b:=d)
 have e:=hn.e
 have hv:=hn.v0
 unfold Ww at e ⊢
 rw [hp]
 cases neg with
 |true =>
  simp only [if_true] at e ⊢
  have e2:dv B9 l=(aP n d:Int)*(-k):=by rw [fz,← hk];omega
  rw [e2,eb _ (by omega)]
  have e3:n / (aP n d:Int)=k:=by
   conv=>lhs;lhs;rw [hk]
   exact eb _ (by omega)
  rw [e3];omega
 |false =>
  simp only [Bool.false_eq_true,if_false] at e ⊢
  rw [← e]
theorem uX {n d:Int} (h:0<d) {neg:Bool} {l p:List Int} (hn:WO neg l d) (hp:dv B9 p=dv B9 l / (aP n d:Int)):dv B9 p=((ag n d).den:Int):=by
 rw [(K8 h).2,hp]
 have:=hn.abs
 congr 1;omega
theorem zN {n d:Int} {a b:Bool} {l m:List Int} (hn:WO a l n) (hd:WO b m d):aP (dv B9 l) (dv B9 m)=aP n d:=by
 rw [← hn.abs,← hd.abs];simp [aP]
theorem zV (x y:Int):ag (-x) (-y)=ag x y:=eO x y
theorem O1 {l:List Int} (h:DG B9 l) (hz:NZ l):(l.length=1∧Qa l 0=1)↔dv B9 l=1:=by
 constructor
 ·rintro ⟨h1,h2⟩
  obtain ⟨x,rfl⟩:=List.length_eq_one_iff.1 h1
  simp [Qa] at h2
  simp [dv,h2]
 ·intro e
  have:l=[1]:=jr Sw h (DG.cons (by decide) (by decide) (DG.nil _)) hz (by simp [NZ]) (by rw [e];simp [dv])
  subst this;exact⟨rfl,rfl⟩
theorem k6 {x:Rat} (h:(x.den:Int)=1):X1 x.num=JN x:=by unfold JN;rw [if_pos (by omega)]
theorem qn {x:Rat} (h:¬ (x.den:Int)=1):X1 x.num++[47]++X1 (x.den:Int)=JN x:=by
 unfold JN;rw [if_neg (by omega),J3 (z:=(x.den:Int)) (by omega)];simp
theorem EG {w:ak} {F:Gs} {x y:Ri} {zx zy:Int} (hF:Fits F w) (hx:Vi F x zx) (hy:Vi F y zy) (h0:zy≠0) (hzx:sz zx≤500000) (hzy:sz zy≤500000):QZ Tryz.prog 180 [x.v,y.v] w F (tx (JN (ag zx zy))):=by
 obtain ⟨xn,⟨xq,xm,xc⟩,xl⟩:=x
 have px:=hx.p
 have lx:=px.len
 have kx:=hx.1.2.1
 have vx:=px.v0
 dsimp only at px lx kx vx
 obtain ⟨yn,⟨yq,ym,yc⟩,yl⟩:=y
 have py:=hy.p
 have ly:=py.len
 have ky:=hy.1.2.1
 have vy:=py.v0
 dsimp only at py ly ky vy
 dsimp only [Ri.v]
 have hny:=py.neg
 refine QT.intro (G:=fun F=>Vi F ⟨xn,⟨xq,xm,xc⟩,xl⟩ zx∧Vi F ⟨yn,⟨yq,ym,yc⟩,yl⟩ zy) Tryz.func180 rfl (by rfl) rfl rfl hF (fun F' hF'=>⟨hx.le hF',hy.le hF'⟩)<|wE<|Q2 rfl (vs:=[_,_]) rfl (fun b2=>Q2 rfl (vs:=[_,_]) rfl (fun b3=>wB rfl<|QE<|QC ?_))
 refine F6 (ι:=QAx zx zy) [(2,_),(3,_)] (fun i=>[]) (fun i=>[(b3,.cells [.bool i.d.neg,.slice i.d.r.q i.d.r.n i.d.r.cap].toArray 143 (0,0)),(b2,.cells [.bool i.n.neg,.slice i.n.r.q i.n.r.n i.n.r.cap].toArray 143 (0,0))]) (fun i F=>Vi F i.n i.zn∧Vi F i.d i.zd) wL ?_ ?_
 ·
  refine wE<|QA (QI rfl Ki WR)<|QA (Qm rfl WR .here .h1)<|QE<|QC ?_
  refine QQ rfl (fun hc=>?_) (fun hc=>?_)
  ·
   refine Xr 4 wG mixed (by kernel_rfl) (by kernel_rfl) ?_
   simp only [eE,e8,eH,bF]
   refine QK (QJ (vs:=[_,_]) rfl JW .u1 .h2 rfl)<|Qd rfl (fun w F hF h9=>xZ hF (x:=⟨xn,⟨xq,xm,xc⟩,xl⟩) h9.1 (by omega)) (fun c14=>QK (QJ (vs:=[_,_]) rfl JW .here .h2 rfl)<|Qd rfl (fun w F hF h9=>xZ hF (x:=⟨yn,⟨yq,ym,yc⟩,yl⟩) h9.1.2 (by omega)) (fun c16=>VF<|QR (vs:=[_,_]) rfl rfl rfl JW rfl .u1 .h2 wL<|QR (vs:=[_,_]) rfl rfl rfl JW rfl .here .h2 wL<|QE ?_))
   exact J0 (⟨c14,c16,-zx,-zy,by rw [hc] at hny;have:=wI hny.symm;omega,zV _ _,by rw [Yd];exact hzx,by rw [Yd];exact hzy⟩) wL wG (fun F h9=>⟨⟨h9.1.1.1,h9.1.1.2⟩,⟨h9.1.2,h9.2⟩⟩)
  ·
   refine QO ?_
   exact J0 (⟨⟨xn,⟨xq,xm,xc⟩,xl⟩,⟨yn,⟨yq,ym,yc⟩,yl⟩,zx,zy,by rw [hc] at hny;have:=wJ hny.symm;omega,rfl,hzx,hzy⟩) wL wG (fun F ⟨hx,hy⟩=>⟨⟨hx,hy⟩,⟨hx,hy⟩⟩)
 ·intro i
  simp only [ae,af]
  refine ZA _ (fun w F hF h=>aD h.2.1.p (aD h.2.2.p (aD h.2.1.1.2.1 h.2.2.1.2.1))) (fun pp=>?_)
  obtain ⟨pn,pd,kn,kd⟩:=pp
  have ln:=pn.len
  have ld:=pd.len
  have hsn:=i.sn
  have hsd:=i.sd
  have hi:=i.h
  have gg:=zN pn pd
  have q1:=YL (a:=i.zn) (b:=i.zd) (by omega)
  have q2:=Jl (ag i.zn i.zd)
  have q3:=Jf (ag i.zn i.zd)
  have q4:sz (ag i.zn i.zd).num≤500000:=by omega
  have q5:sz ((ag i.zn i.zd).den:Int)≤500000:=by omega
  refine wE<|QA (QI rfl YF Qv)<|QA (Qm rfl Qv .u1 (.skip .h1))<|QA (QI rfl YF Qv)<|QA (Qm rfl Qv .here (.skip .h1)) ?_
  refine QH rfl (fun w F hF h9=>qC hF (a:=i.n.l) (b:=i.d.l) (ra:=i.n.r) (rb:=i.d.r) h9.2.1.1 (h9.2.2.1) (pn.dg) (pd.dg) (pn.nz) (pd.nz) (by omega) (by omega)) (fun c21=>?_);rcases c21 with ⟨v21,l21⟩;dsimp only
  refine JO _ (fun w F hF ⟨⟨⟨hx,hy⟩,⟨hN,hD⟩⟩,⟨h21,h21p⟩⟩=>aD h21.2 h21p) (fun p21=>wD rfl<|QG ?_)
  have g0:0<dv B9 l21:=by rw [p21.2.2.2,gg];have:=Wf (x:=i.zn) i.h;omega
  have l21l:l21.length≤i.d.l.length:=by
   refine Gc p21.2.1 pd.dg p21.2.2.1 ?_
   rw [p21.2.2.2,gg]
   have h1:(aP i.zn i.zd:Int)≤i.zd:=Int.le_of_dvd i.h (Int.gcd_dvd_right (a:=i.zn) (b:=i.zd))
   have h2:=pd.abs
   omega
  refine QB<|QA (QI rfl YF Qv)<|QA (Qm rfl Qv .u1 (.skip .h1))<|wA rfl<|QH rfl (fun w F hF h9=>Gx hF (a:=i.n.l) (b:=l21) (ra:=i.n.r) (rb:=v21) h9.1.2.1.1 (h9.2.1) (pn.dg) (p21.2.1) (pn.nz) (p21.2.2.1) (g0) (by omega) (by omega)) (fun c26=>wA rfl<|QA (QM rfl rfl)<|QA (QM rfl rfl)<|wB rfl<|wD rfl<|QG<|ZA _ (fun w F hF h=>aD h.2.1.2 h.2.1.1.2.1) (fun p26=>?_))
  obtain ⟨p26,n26⟩:=p26
  refine QB<|QA (QI rfl YF Qv)<|QA (Qm rfl Qv .here (.skip .h1))<|wA rfl<|QH rfl (fun w F hF h9=>Gx hF (a:=i.d.l) (b:=l21) (ra:=i.d.r) (rb:=v21) h9.1.1.2.2.1 (h9.1.2.1) (pd.dg) (p21.2.1) (pd.nz) (p21.2.2.1) (g0) (by omega) (by omega)) (fun c33=>wA rfl<|QA (QM rfl rfl)<|QA (QM rfl rfl)<|wB rfl<|wD rfl<|QG<|ZA _ (fun w F hF h=>aD h.2.1.2 h.2.1.1.2.1) (fun p33=>?_))
  obtain ⟨p33,n33⟩:=p33
  have en:Ww i.n.neg c26.1.2=(ag i.zn i.zd).num:=uW i.h pn (by rw [p26.2.2,p21.2.2.2,gg])
  have ed:dv B9 c33.1.2=((ag i.zn i.zd).den:Int):=uX i.h pd (by rw [p33.2.2,p21.2.2.2,gg])
  have ed2:Ww false c33.1.2=((ag i.zn i.zd).den:Int):=by rw [← ed];rfl
  have lnp:=Gc p26.1 pn.dg p26.2.1 (by rw [p26.2.2];exact bS _ pn.v0)
  have lnq:=Gc p33.1 pd.dg p33.2.1 (by rw [p33.2.2];exact bS _ pd.v0)
  have one1:=O1 p33.1 p33.2.1
  have lr1:=D1 (ag i.zn i.zd).num
  have lr2:=D1 ((ag i.zn i.zd).den:Int)
  refine QB<|QA (QI rfl Ki WR)<|QA (Qm rfl WR .u1 .h1)<|wA rfl<|QH rfl (fun w F hF h9=>YD hF (r:=c26.1.1) (l:=c26.1.2) (neg:=i.n.neg) h9.1.2.1.1 (p26.1) (by first | omega | (simp;omega))) (fun c39=>QH rfl (fun w F hF h9=>qh hF (zx:=(ag i.zn i.zd).num) (by rw [← en];exact h9.2) (by omega)) (fun _=>wD rfl<|QG<|wF rfl<|QA (Qj rfl Qf)<|QA (QU rfl rfl rfl)<|wA rfl ?_))
  refine Qn (t:=44) rfl (fun hb44=>?_) (fun hb44=>?_)
  ·
   have hn1:c33.1.1.n=1:=by simp at hb44;omega
   refine QL rfl rfl<|wA rfl<|QL rfl rfl<|QA (JH (n:=c33.1.1.n) (0) (fun F h9=>(h9.1.1.2.1.1).1) rfl (congrArg (fun z:Int=>some (ah .i64 z)) (by omega)) Qf Qp (by omega))<|QL rfl rfl<|QA (JQ (n:=c33.1.1.n) ((0)*1) (fun F h9=>(h9.1.1.2.1.1).1) (by omega) rfl Qp (JJ (o:=c33.1.2) (by omega)))<|QL rfl rfl<|QA (QU rfl rfl rfl)<|QA (Qi rfl rfl rfl)<|QE<|QC ?_
   refine QQ rfl (fun hc=>?_) (fun hc=>?_)
   ·
    refine wF rfl<|wD rfl<|QS ?_
    exact wH rfl rfl (by rw [← i.e];exact congrArg (fun l=>tx l) (k6 (by rw [← ed];exact one1.1 ⟨by omega,by simpa using hc⟩)).symm) (fun F h9=>trivial)
   ·
    refine QO<|QC<|wF rfl<|QA (Zs rfl rfl (by simp;omega))<|wA rfl<|QH rfl (fun w F hF h9=>YD hF (r:=c33.1.1) (l:=c33.1.2) (neg:=false) h9.1.1.2.1.1 (p33.1) (by first | omega | (simp;omega))) (fun c54=>QH rfl (fun w F hF h9=>qh hF (zx:=((ag i.zn i.zd).den:Int)) (by rw [← ed2];exact h9.2) (by omega)) (fun _=>QA (Zs rfl rfl (by simp;omega))<|wD rfl<|QS ?_))
    exact wH rfl rfl (by rw [← i.e];exact congrArg (fun l=>tx l) (qn (fun g=>by have:=one1.2 (by rw [ed];exact g);rw [this.2] at hc;simp at hc)).symm) (fun F h9=>trivial)
  ·
   have hn1:c33.1.1.n≠1:=by simp at hb44;omega
   refine QN rfl rfl rfl<|QN rfl rfl rfl<|QN rfl rfl rfl<|QN rfl rfl rfl<|QA (Qh rfl rfl rfl)<|wC<|YQ rfl<|QO<|QC<|wF rfl<|QA (Zs rfl rfl (by simp;omega))<|wA rfl<|QH rfl (fun w F hF h9=>YD hF (r:=c33.1.1) (l:=c33.1.2) (neg:=false) h9.1.1.2.1.1 (p33.1) (by first | omega | (simp;omega))) (fun c54=>QH rfl (fun w F hF h9=>qh hF (zx:=((ag i.zn i.zd).den:Int)) (by rw [← ed2];exact h9.2) (by omega)) (fun _=>QA (Zs rfl rfl (by simp;omega))<|wD rfl<|QS ?_))
   exact wH rfl rfl (by rw [← i.e];exact congrArg (fun l=>tx l) (qn (fun g=>by have:=one1.2 (by rw [ed];exact g);omega)).symm) (fun F h9=>trivial)
theorem dF (x:Rat):(GM x).num=(x.num.natAbs:Int)∧(GM x).den=x.den:=by
 unfold GM;split
 ·exact⟨by rw [eC];omega,by rw [fq]⟩
 ·exact⟨by omega,rfl⟩
theorem vd {z:Int} (h:z<0):X1 z=45::X1 (-z):=by
 rw [YU h,J3 (z:=-z) (by omega)];congr 2;omega
theorem FV {x:Rat} (h:x.num<0):JN x=45::JN (-x):=by
 unfold JN
 rw [eC,fq,vd h]
 split<;>rfl
theorem N9 (x:Rat):az (JN x) [45]=decide (x.num<0):=by
 by_cases h:x.num<0
 ·rw [FV h];simp [az,eV,h]
 ·have e:(decide (x.num<0))=false:=by simpa using h
  rw [e]
  unfold JN
  rw [J3 (by omega)]
  have hd:=Jb x.num.natAbs
  split
  ·exact Kq hd
  ·have hne:=KS x.num.natAbs
   cases hl:aj x.num.natAbs with
   |nil=>exact absurd hl hne
   |cons c r =>
    have:=Kq hd
    rw [hl] at this
    simpa [az,eV] using this
theorem xh (x:Rat):aa (JN x) [45]=JN (GM x):=by
 unfold aa GM
 rw [N9]
 by_cases h:x.num<0
 ·rw [if_pos (by simpa using h),if_pos h,FV h];rfl
 ·rw [if_neg (by simpa using h),if_neg h]
theorem OQ {l:List UInt8} (h:XK l=true) (hl:l.length≤9):JA l<1000000000:=by
 have h1:=Vn h
 have h2:10^l.length≤10^9:=eD (by decide) hl
 omega
theorem FR {w:ak} {F:Gs} {x:Rat} (hF:Fits F w) (hl:JL x≤100000):QT Tryz.prog 194 [tx (JN x)] w F (fun(c:Int×Int×Bool)=>.tuple #[.int .i64 c.1,.int .i64 c.2.1,.bool c.2.2]) (fun c _=>vT x c):=by
 have hlen:=V6 x
 have hlen2:=V6 (GM x)
 rw [xR] at hlen2
 obtain ⟨an,ad⟩:=dF x
 have hah:=DI XY (JN (GM x))
 have anT:X1 (GM x).num=aj x.num.natAbs:=by rw [an,J3 (by omega)];rfl
 refine QT.intro (G:=fun F=>True) Tryz.func194 rfl (by rfl) rfl rfl hF (fun F' hF'=>trivial)<|wE<|wB rfl<|wB rfl<|wD rfl<|wF rfl<|wD rfl<|QG<|wF rfl<|QA (XF rfl Xp)<|QA (QU rfl rfl rfl)<|QE<|QC ?_
 refine QQ rfl (fun hc=>?_) (fun hc=>?_)
 ·
  refine wE<|wB rfl<|wB rfl<|wD rfl<|QS ?_
  exact Ja ((0,0,false):Int×Int×Bool) rfl (.tmp rfl (.tmp rfl (.tmp rfl .nil))) (rfl) (fun F hT=>fun h=>by cases h)
 ·
  refine QO<|QC ?_
  refine Kz [(5,_)] [(6,.bool (decide (x.num<0)))] wK ?_ ?_
  ·
   refine QB<|wA rfl<|QA (XF rfl Xp)<|QA (QU rfl rfl rfl)<|wA rfl ?_
   refine Qn (t:=17) rfl (fun hb17=>?_) (fun hb17=>?_)
   ·
    refine QL rfl rfl<|wA rfl<|QL rfl rfl<|QA (WA (i:=0) rfl rfl Xp (by have:=wI hb17;omega))<|QL rfl rfl<|QA (QU rfl rfl rfl)<|QA (Qi rfl rfl rfl)<|wB rfl<|QE ?_
    exact ZI ⟨rfl,(congrArg (fun b=>some (ab b)) (by have h0:0<(JN x).length:=(by have:=wI hb17;omega);rw [← N9,GY h0];exact E2 rfl)),trivial⟩ wG (fun _ h=>h)
   ·
    refine QN rfl rfl rfl<|QN rfl rfl rfl<|QN rfl rfl rfl<|QA (Qh rfl rfl rfl)<|wB rfl<|QE ?_
    exact ZI ⟨rfl,(congrArg (fun b=>some (ab b)) (by have h0:(JN x).length=0:=(by have:=wJ hb17;omega);rw [← N9,ax h0];rfl)),trivial⟩ wG (fun _ h=>h)
  ·
   simp only [ae,af]
   refine Kz [(6,_)] [(5,tx (JN (GM x)))] wK ?_ ?_
   ·
    refine wF rfl<|QE<|QC ?_
    refine QQ rfl (fun hc=>?_) (fun hc=>?_)
    ·
     refine QB<|wA rfl<|QA (K4 (1) rfl rfl Xp rfl (by have:=NG (s:=JN x) (by rw [N9];exact hc);omega))<|wB rfl<|QE ?_
     exact ZI ⟨rfl,(congrArg (fun l=>some (tx l)) (by rw [← xh];unfold aa;rw [if_pos (by rw [N9];exact hc)];rfl)),trivial⟩ wG (fun _ h=>h)
    ·
     refine QO ?_
     exact ZI ⟨rfl,(congrArg (fun l=>some (tx l)) (by rw [← xh];unfold aa;rw [N9,hc];rfl)),trivial⟩ wG (fun _ h=>h)
   ·
    simp only [ae,af]
    refine wF rfl<|QH rfl (fun w F hF hT=>ED hF (by omega)) (fun _=>wD rfl<|QG<|wF rfl<|QA (QU rfl rfl rfl)<|wA rfl ?_)
    refine Qn (t:=29) rfl (fun hb29=>?_) (fun hb29=>?_)
    ·
     refine QN rfl rfl rfl<|QN rfl rfl rfl<|QN rfl rfl rfl<|QN rfl rfl rfl<|QN rfl rfl rfl<|QA (Qi rfl rfl rfl)<|wC<|GK rfl<|wE<|wB rfl<|wB rfl<|wD rfl<|QS ?_
     exact Ja ((0,0,false):Int×Int×Bool) rfl (.tmp rfl (.tmp rfl (.tmp rfl .nil))) (rfl) (fun F h9=>fun h=>by cases h)
    ·
     refine QL rfl rfl<|wA rfl<|QL rfl rfl<|QA (XF rfl Xp)<|QL rfl rfl<|wA rfl<|QL rfl rfl<|QA (XB rfl rfl (by omega))<|QL rfl rfl<|QA (QU rfl rfl rfl)<|QA (Qh rfl rfl rfl)<|QE<|QC ?_
     refine QQ rfl (fun hc=>?_) (fun hc=>?_)
     ·
      refine wE<|wB rfl<|wB rfl<|wD rfl<|QS ?_
      exact Ja ((0,0,false):Int×Int×Bool) rfl (.tmp rfl (.tmp rfl (.tmp rfl .nil))) (rfl) (fun F h9=>fun h=>by cases h)
     ·
      have k9:ahead XY (JN (GM x))≤9∧(JN (GM x)).length - ahead XY (JN (GM x))≤10:=by
       have ha:=DI XY (JN (GM x))
       first | (simp at hc hb29;omega) | (simp at hc;omega)
      have kt:(JN (GM x)).take (ahead XY (JN (GM x)))=X1 (GM x).num:=by
       by_cases hd:(GM x).den=1
       ·obtain ⟨e1,e2⟩:=PK hd
        rw [e2,ar,e1]
       ·exact(GR hd).2.2.1
      have kr:JA ((JN (GM x)).take (ahead XY (JN (GM x))))=x.num.natAbs:=by rw [kt,anT,XI]
      have hnum:x.num.natAbs<1000000000:=by
       have h1:=OQ (l:=X1 (GM x).num) (by rw [anT];exact Jb _) (by rw [← kt,aw];omega)
       rw [anT,XI] at h1;exact h1
      have hdn:x.den<1000000000:=by
       rw [← ad]
       by_cases hd:(GM x).den=1
       ·omega
       ·obtain ⟨e1,e2,e3,e4⟩:=GR hd
        have h1:=OQ (l:=aj (GM x).den) (Jb _) (by rw [← e4,aI];omega)
        rw [XI] at h1;exact h1
      refine QO<|QC<|wF rfl<|wA rfl<|QA (Hx (ahead XY (JN (GM x))) rfl rfl Xp rfl (by omega))<|QH rfl (fun w F hF h9=>M7 hF (by rw [kt,anT];exact Jb _) (by rw [aw];omega)) (fun _=>?_)
      rw [kr]
      refine wB rfl<|wB rfl<|QE<|QC ?_
      refine Kz [(6,_),(8,_)] [(9,.int .i64 (x.den:Int))] wL ?_ ?_
      ·
       refine wF rfl<|wA rfl<|QA (XF rfl Xp)<|QA (QU rfl rfl rfl)<|QE<|QC ?_
       refine QQ rfl (fun hc=>?_) (fun hc=>?_)
       ·
        have hlt:=wI hc
        have hd:¬ (GM x).den=1:=fun g=>by have:=(PL (GM x)).2 g;have:=wI hc;omega
        have kd:=(GR hd).2.2.2
        have kd2:JA ((JN (GM x)).drop (ahead XY (JN (GM x))+1))=x.den:=by rw [kd,XI,ad]
        refine QB<|wA rfl<|wA rfl<|QA (Qs rfl rfl (by omega))<|QA (K4 ((ahead XY (JN (GM x))+1)) rfl rfl Xp (congrArg (fun z:Int=>some (ah .i64 z)) (by omega)) (by omega))<|QH rfl (fun w F hF h9=>M7 hF (by rw [kd];exact Jb _) (by rw [aI];omega)) (fun _=>?_)
        rw [kd2]
        refine wB rfl<|QE ?_
        exact ZI wM wG (fun _ h=>h.1)
       ·
        have hd:(GM x).den=1:=(PL (GM x)).1 (by have:=wJ hc;have:=DI XY (JN (GM x));omega)
        refine QO ?_
        exact ZI ⟨rfl,rfl,(congrArg (fun z:Int=>some (ah .i64 z)) (by rw [← ad,hd];rfl)),trivial⟩ wG (fun _ h=>h)
      ·
       simp only [ae,af]
       have hden:x.den<1000000000:=hdn
       refine Kz [(9,_)] [(8,.int .i64 (x.num))] wK ?_ ?_
       ·
        refine wF rfl<|QE<|QC ?_
        refine QQ rfl (fun hc=>?_) (fun hc=>?_)
        ·
         refine QB<|wA rfl<|QA (XB rfl rfl (by omega))<|wB rfl<|QE ?_
         exact ZI ⟨rfl,(congrArg (fun z:Int=>some (ah .i64 z)) (by have:=wI hc;omega)),trivial⟩ wG (fun _ h=>h)
        ·
         refine QO ?_
         exact ZI ⟨rfl,(congrArg (fun z:Int=>some (ah .i64 z)) (by have:=wJ hc;omega)),trivial⟩ wG (fun _ h=>h)
       ·
        simp only [ae,af]
        refine wF rfl<|wA rfl<|wB rfl<|wB rfl<|wD rfl<|QS ?_
        exact Ja ((x.num,(x.den:Int),true):Int×Int×Bool) rfl (.tmp rfl (.tmp rfl (.tmp rfl .nil))) (rfl) (fun F h9=>fun _=>⟨rfl,rfl,hnum,hden⟩)
section
variable {P:ei} {N:Nat} {m:Sl} {S:ak→Prop} {ty:aK}
theorem cQ {T yT:aK} {x y:bV} {a b:Int} (hx:ev m x=some (.int .i64 a)) (hy:ev m y=some (.int .i64 b)) (h:0<b) (h0 : -9223372036854775807≤a) (h1:a≤9223372036854775807):Qt P N m S (.binOp .quo T x y yT) ty (.int .i64 (a.tdiv b)):=by
 have:=LW (P:=P) (N:=N) (m:=m) (S:=S) (ty:=ty) (T:=T) (yT:=yT) hx hy (by omega)
 have e:=e9 a b
 have e2:a.natAbs.div b.natAbs≤a.natAbs:=eZ _ _
 rw [IntWalk.i64_in _ (by omega)] at this;exact this
end
theorem uI {w:ak} {F:Gs} {x y:Int} (hF:Fits F w) (h0:0≤x) (h1:x≤9223372036854775807) (k0:0≤y) (k1:y≤9223372036854775807):QZ Tryz.prog 181 [.int .i64 x,.int .i64 y] w F (.int .i64 (bh x.toNat y.toNat:Nat)):=by
 have:=dC (a:=x.toNat) (b:=y.toNat) hF (by omega) (by omega)
 rw [bf h0,bf k0] at this;exact this
theorem dS (z:Int):(if 0 - z>z then 0 - z else z)=((z.natAbs:Nat):Int):=by split<;>omega
theorem zX (n:Nat):N6 n 1=aj n:=by
 rcases aV n with h | h
 ·subst h;unfold N6 hd;rw [if_pos rfl,Zq];rfl
 ·exact RP h
theorem dM {n:Int} {d:Nat} (h:0<d):n.tdiv ((bh n.natAbs d:Nat):Int)=(ag n d).num:=by
 rw [(K8 (x:=n) (y:=(d:Int)) (by omega)).1]
 have e:(bh n.natAbs d:Nat)=aP n (d:Int):=by simp [aP]
 rw [e]
 exact Int.tdiv_eq_ediv_of_dvd (eX (a:=n) (b:=(d:Int)))
theorem dN {n:Int} {d:Nat} (h:0<d):(d:Int) / ((bh n.natAbs d:Nat):Int)=((ag n d).den:Int):=by
 rw [(K8 (x:=n) (y:=(d:Int)) (by omega)).2]
 have e:(bh n.natAbs d:Nat)=aP n (d:Int):=by simp [aP]
 rw [e]
theorem uN (n:Int) {d:Int} (h:d≠0):ag (if d<0 then 0 - n else n) (d.natAbs:Int)=ag n d:=by
 split
 ·rename_i g
  rw [show((d.natAbs:Nat):Int) = -d by omega,Int.zero_sub];exact eO n d
 ·rw [show((d.natAbs:Nat):Int)=d by omega]
theorem dO {n:Int} {d:Nat} (h:0<d) (hn:n.natAbs≤4000000000000000000) (hd:d≤4000000000000000000):(ag n d).num.natAbs≤4000000000000000000∧(ag n d).den≤4000000000000000000∧0<(ag n d).den:=by
 have e1:=dM (n:=n) h
 have e2:=dN (n:=n) h
 have k1:=e9 n ((bh n.natAbs d:Nat):Int)
 have k2:n.natAbs.div ((bh n.natAbs d:Nat):Int).natAbs≤n.natAbs:=eZ _ _
 have k3:(d:Int) / ((bh n.natAbs d:Nat):Int)≤(d:Int):=bS _ (by omega)
 have k4:=(ag n d).den_pos
 rw [e1] at k1
 omega
theorem xz (z:Int):(if z<0 then [45] else [])++aj z.natAbs=X1 z:=by
 split
 ·rename_i h;rw [YU h];rfl
 ·rw [J3 (by omega)];rfl
theorem p8 {z:Int} (h : -9223372036854775808≤z∧z≤9223372036854775807):sz z≤64:=by
 rw [XR];omega
theorem gz {w:ak} {F:Gs} {num den:Int} (hF:Fits F w) (hn : -9223372036854775808≤num∧num≤9223372036854775807) (hd : -9223372036854775808≤den∧den≤9223372036854775807) (h0:den≠0):QZ Tryz.prog 74 [.int .i64 num,.int .i64 den] w F (tx (JN (ag num den))):=by
 refine QT.intro (G:=fun F=>True) Tryz.func74 rfl (by rfl) rfl rfl hF (fun F' hF'=>trivial)<|wE<|wD rfl<|QG ?_
 refine Kz [(0,_),(1,_)] [(20,.bool (decide (num < -4000000000000000000∨num>4000000000000000000∨den < -4000000000000000000∨den>4000000000000000000)))] wL ?_ ?_
 ·
  refine QB<|wA rfl<|QA (QU rfl rfl rfl)<|wA rfl ?_
  refine Qn (t:=9) rfl (fun hb9=>?_) (fun hb9=>?_)
  ·
   refine QN rfl rfl rfl<|QN rfl rfl rfl<|QA (Qi rfl rfl rfl)<|wA rfl<|QN rfl rfl rfl<|QN rfl rfl rfl<|QA (Qi rfl rfl rfl)<|wA rfl<|QN rfl rfl rfl<|QN rfl rfl rfl<|QA (Qi rfl rfl rfl)<|QE ?_
   exact ZI ⟨rfl,rfl,(congrArg (fun b=>some (ab b)) (by rw [aC];simp_all;try omega)),trivial⟩ wG (fun _ h=>h)
  ·
   refine QL rfl rfl<|wA rfl<|QL rfl rfl<|QA (QU rfl rfl rfl)<|QA (Qh rfl rfl rfl)<|wA rfl ?_
   refine Qn (t:=13) rfl (fun hb13=>?_) (fun hb13=>?_)
   ·
    refine QN rfl rfl rfl<|QN rfl rfl rfl<|QA (Qi rfl rfl rfl)<|wA rfl<|QN rfl rfl rfl<|QN rfl rfl rfl<|QA (Qi rfl rfl rfl)<|QE ?_
    exact ZI ⟨rfl,rfl,(congrArg (fun b=>some (ab b)) (by rw [aC];simp_all;try omega)),trivial⟩ wG (fun _ h=>h)
   ·
    refine QL rfl rfl<|wA rfl<|QL rfl rfl<|QA (QU rfl rfl rfl)<|QA (Qh rfl rfl rfl)<|wA rfl ?_
    refine Qn (t:=17) rfl (fun hb17=>?_) (fun hb17=>?_)
    ·
     refine QN rfl rfl rfl<|QN rfl rfl rfl<|QA (Qi rfl rfl rfl)<|QE ?_
     exact ZI ⟨rfl,rfl,(congrArg (fun b=>some (ab b)) (by rw [aC];simp_all;try omega)),trivial⟩ wG (fun _ h=>h)
    ·
     refine QL rfl rfl<|wA rfl<|QL rfl rfl<|QA (QU rfl rfl rfl)<|QA (Qh rfl rfl rfl)<|QE ?_
     exact ZI ⟨rfl,rfl,(congrArg (fun b=>some (ab b)) (by rw [aC];simp_all;try omega)),trivial⟩ wG (fun _ h=>h)
 ·
  simp only [ae,af]
  refine QQ rfl (fun hc=>?_) (fun hc=>?_)
  ·
   refine wF rfl<|QH rfl (fun w F hF hT=>Ml hF (by omega)) (fun c22=>wA rfl<|QH rfl (fun w F hF h9=>Ml hF (by omega)) (fun c24=>QH rfl (fun w F hF h9=>EG hF (h9.1.2) (h9.2) (h0) (by have:=p8 hn;omega) (by have:=p8 hd;omega)) (fun _=>wD rfl<|QS ?_)))
   exact wH rfl rfl (rfl) (fun F h9=>trivial)
  ·
   have hb:¬ (num < -4000000000000000000∨num>4000000000000000000∨den < -4000000000000000000∨den>4000000000000000000):=wJ hc
   refine QO<|QC ?_
   refine Kz [] [(0,.int .i64 (if den<0 then 0 - num else num)),(1,.int .i64 ((den.natAbs:Nat):Int))] trivial ?_ ?_
   ·
    refine wF rfl<|QA (QU rfl rfl rfl)<|QE<|QC ?_
    refine QQ rfl (fun hc=>?_) (fun hc=>?_)
    ·
     refine QB<|wA rfl<|QA (XB rfl rfl (by omega))<|wA rfl<|QA (XB rfl rfl (by omega))<|wB rfl<|wB rfl<|QE ?_
     exact ZI ⟨(congrArg (fun z:Int=>some (ah .i64 z)) (if_pos (wI hc)).symm),(congrArg (fun z:Int=>some (ah .i64 z)) (by have:=wI hc;omega)),trivial⟩ wG (fun _ h=>h)
    ·
     refine QO ?_
     exact ZI ⟨(congrArg (fun z:Int=>some (ah .i64 z)) (if_neg (wJ hc)).symm),(congrArg (fun z:Int=>some (ah .i64 z)) (by have:=wJ hc;omega)),trivial⟩ wG (fun _ h=>h)
   ·
    simp only [ae,af]
    have hq:=uN num h0
    have b1:(if den<0 then 0 - num else num).natAbs≤4000000000000000000:=by split<;>omega
    generalize (if den<0 then 0 - num else num)=n1 at *
    obtain ⟨c1,c2,c3⟩:=dO (n:=n1) (d:=den.natAbs) (by omega) b1 (by omega)
    have hg:0<bh n1.natAbs den.natAbs:=Nat.gcd_pos_of_pos_right _ (by omega)
    have lr1:=D1 (ag n1 (den.natAbs:Int)).num
    have lr2:=Ug (ag n1 (den.natAbs:Int)).den
    have lz1:=p8 (z:=(ag n1 (den.natAbs:Int)).num) (by omega)
    have lz2:=p8 (z:=((ag n1 (den.natAbs:Int)).den:Int)) (by omega)
    have e1:=dM (n:=n1) (d:=den.natAbs) (by omega)
    have e2:=dN (n:=n1) (d:=den.natAbs) (by omega)
    refine wF rfl<|wA rfl<|QA (XB rfl rfl (by omega))<|QA (dH rfl rfl) ?_
    rw [dS]
    refine wA rfl<|QH rfl (fun w F hF hT=>uI hF (by omega) (by omega) (by omega) (by omega)) (fun _=>wD rfl<|QG<|JV wG mixed (by kernel_rfl) ?_)
    simp only [bO]
    refine QK (QD rfl)<|QK (QD rfl)<|QK (cQ rfl rfl (by omega) (by omega) (by omega)) ?_
    rw [e1]
    refine QK (QD rfl)<|QK (QD rfl)<|QK (W4 rfl rfl (by omega) (by omega) (by omega)) ?_
    rw [e2]
    refine QK (QF rfl)<|QK (QF rfl)<|Q3<|QC<|wE<|wB rfl<|QE<|QC ?_
    refine Kz [(0,_),(1,_)] [(6,tx (if(ag n1 (den.natAbs:Int)).num<0 then [45] else []))] wL ?_ ?_
    ·
     refine wF rfl<|QA (QU rfl rfl rfl)<|QE<|QC ?_
     refine QQ rfl (fun hc=>?_) (fun hc=>?_)
     ·
      refine QB<|wB rfl<|QE ?_
      exact ZI ⟨rfl,rfl,(congrArg (fun l=>some (tx l)) (if_pos (wI hc)).symm),trivial⟩ wG (fun _ h=>h)
     ·
      refine QO ?_
      exact ZI ⟨rfl,rfl,(congrArg (fun l=>some (tx l)) (if_neg (wJ hc)).symm),trivial⟩ wG (fun _ h=>h)
    ·
     simp only [ae,af]
     refine wF rfl<|wA rfl<|wA rfl<|QA (XB rfl rfl (by omega))<|QA (dH rfl rfl) ?_
     rw [dS]
     refine QH rfl (fun w F hF h9=>N8 hF (least:=1) (by omega) (by omega) (by omega)) (fun _=>?_)
     simp only [bO,zX]
     refine QA (Zs rfl rfl (by have e:=congrArg eB (xz (ag n1 (den.natAbs:Int)).num);rw [aN] at e;omega))<|wD rfl<|QG<|QG<|QB ?_
     rw [xz]
     refine wA rfl<|QA (QU rfl rfl rfl)<|QE<|QC ?_
     refine QQ rfl (fun hc=>?_) (fun hc=>?_)
     ·
      have hd1:¬ ((ag n1 (den.natAbs:Int)).den:Int)=1:=by have:=wI hc;omega
      refine QB<|wA rfl<|QA (Zs rfl rfl (by simp only [aN,aF,eU];omega))<|wA rfl<|QH rfl (fun w F hF h9=>N8 hF (least:=1) (by omega) (by omega) (by omega)) (fun _=>?_)
      simp only [bO,zX]
      refine QA (Zs rfl rfl (by simp only [aN,aF,eU];omega))<|wD rfl<|wF rfl<|wD rfl<|QS ?_
      exact wH rfl rfl (by rw [← hq];exact congrArg (fun l=>tx l) (by rw [← qn hd1,Fc])) (fun F h9=>trivial)
     ·
      have hd1:((ag n1 (den.natAbs:Int)).den:Int)=1:=by have:=wJ hc;omega
      refine QO<|QC<|wF rfl<|wD rfl<|QS ?_
      exact wH rfl rfl (by rw [← hq];exact congrArg (fun l=>tx l) (k6 hd1).symm) (fun F h9=>trivial)
theorem zA (x:Rat):x.num<0↔x<0:=by rw [← eN,← Rat.num_nonneg];omega
theorem vH (x:Rat):yi (JN x)=JN (-x):=by
 unfold yi N7
 rw [N9]
 by_cases h0:JN x=[48]
 ·rw [if_pos h0]
  have hx:x=0:=by
   have hv:=YS x.num
   by_cases hd:x.den=1
   ·rw [(PK hd).1] at h0
    rw [h0] at hv
    have:x.num=0:=by rw [← hv];rfl
    exact Rat.num_eq_zero.1 this
   ·have:=(GR hd).2.2.1
    have h1:=(GR hd).2.1
    rw [h0] at h1
    have h2:=(GR hd).1
    have h3:0<(X1 x.num).length:=by
     rcases aV (X1 x.num).length with g | g
     ·have e:=ax g
      unfold X1 at e
      rcases ew x.num 0 with q | q
      ·have:=YU q;unfold X1 at this;rw [this] at e;cases e
      ·have:=J3 q;unfold X1 at this;rw [this] at e;exact absurd e (KS _)
     ·exact g
    rw [h0] at h2
    simp at h1;omega
  subst hx
  have e:(-0:Rat)=0:=by decide
  rw [e,if_neg (by decide),if_pos rfl]
 ·rw [if_neg h0]
  by_cases hn:x.num<0
  ·rw [if_pos (show(decide (x.num<0))=true by simpa using hn),if_pos (by decide),FV hn];rfl
  ·rw [if_neg (show ¬ (decide (x.num<0))=true by simpa using hn),if_neg (by decide),if_neg (by decide)]
   have h1:(-x).num<0:=by
    rw [eC]
    have:x.num≠0:=by
     intro e
     have:=Rat.num_eq_zero.1 e
     subst this
     exact h0 TP
    omega
   have:=FV h1
   rw [Rat.neg_neg] at this
   exact this.symm
theorem xV (x:Rat):N7 (JN x)=E7 x.num:=by
 unfold N7
 rw [N9]
 by_cases h0:x=0
 ·subst h0;rw [if_pos TP];rfl
 ·have hn:x.num≠0:=fun e=>h0 (Rat.num_eq_zero.1 e)
  have h1:JN x≠[48]:=by
   intro e
   have h2:=vH x
   unfold yi N7 at h2
   rw [if_pos e,if_neg (by decide),if_pos rfl,e] at h2
   by_cases hd:x.den=1
   ·have hv:=YS x.num
    rw [← (PK hd).1,e] at hv
    exact hn hv.symm
   ·have:=(GR hd).2.2.1
    have hv:=YS x.num
    rw [← this,e] at hv
    have h3:=(GR hd).2.1
    rw [e] at h3
    have h4:ahead XY [48]=1:=by decide
    rw [h4] at h3
    exact absurd h3 (by decide)
  rw [if_neg h1]
  unfold E7
  by_cases g:x.num<0
  ·rw [if_pos (show(decide (x.num<0))=true by simpa using g),if_pos g]
  ·rw [if_neg (show ¬ (decide (x.num<0))=true by simpa using g),if_neg g,if_neg hn]
theorem qf (x:Rat):E7 x.num=if x<0 then -1 else if x=0 then 0 else 1:=by
 unfold E7
 by_cases h:x<0
 ·rw [if_pos h,if_pos ((zA x).2 h)]
 ·rw [if_neg h,if_neg (fun g=>h ((zA x).1 g))]
  by_cases h0:x=0
  ·rw [if_pos h0,if_pos (Rat.num_eq_zero.2 h0)]
  ·rw [if_neg h0,if_neg (fun g=>h0 (Rat.num_eq_zero.1 g))]
theorem ud (x y:Rat):E7 (x - y).num=Wr x y:=by
 rw [qf]
 unfold Wr
 have h1:(x - y<0)↔x<y:=by grind
 have h2:(x - y=0)↔x=y:=by grind
 simp only [h1,h2]
theorem uV (n:Int):JN (n:Rat)=X1 n:=by unfold JN;rw [if_pos (by simp)];simp
theorem qt {w:ak} {F:Gs} {x y:Rat} (hF:Fits F w) (hx:JL x≤100000) (hy:JL y≤100000):QZ Tryz.prog 92 [tx (JN x),tx (JN y)] w F (tx (JN (x+y))):=by
 refine QT.intro (G:=fun F=>True) Tryz.func92 rfl (by rfl) rfl rfl hF (fun F' hF'=>trivial)<|wE<|wD rfl<|wF rfl<|QH rfl (fun w F hF hT=>FR hF (hx)) (fun c17=>JO _ (fun w F hF h9=>h9.2) (fun p17=>wA rfl<|QA (QM rfl rfl)<|QA (QM rfl rfl)<|QA (QM rfl rfl)<|wB rfl<|wB rfl<|wD rfl<|wF rfl<|QH rfl (fun w F hF h9=>FR hF (hy)) (fun c23=>JO _ (fun w F hF h9=>h9.2) (fun p23=>?_))))
 refine wA rfl<|QA (QM rfl rfl)<|QA (QM rfl rfl)<|QA (QM rfl rfl)<|wB rfl<|wB rfl<|wD rfl<|QG<|wF rfl<|wA rfl ?_
 refine Qn (t:=28) rfl (fun hb28=>?_) (fun hb28=>?_)
 ·
  refine QL rfl rfl<|wA rfl<|QA (Qi rfl rfl rfl)<|QE<|QC ?_
  refine QQ rfl (fun hc=>?_) (fun hc=>?_)
  ·
   refine QG ?_
   obtain ⟨a1,a2,a3,a4⟩:=p17 hb28
   obtain ⟨b1,b2,b3,b4⟩:=p23 hc
   have xd:=x.den_pos
   have yd:=y.den_pos
   have e1:(x.num*y.den).natAbs<1000000000*1000000000:=by rw [aJ];exact au a3 (by omega)
   have e2:(y.num*x.den).natAbs<1000000000*1000000000:=by rw [aJ];exact au b3 (by omega)
   have e3:(x.num*y.num).natAbs<1000000000*1000000000:=by rw [aJ];exact au a3 b3
   have e4:((x.den:Int)*y.den).natAbs<1000000000*1000000000:=by rw [aJ];exact au (by omega) (by omega)
   have e5:(x.den:Int)*y.den≠0:=by have h1:=Y2 x;have h2:=Y2 y;exact aU h1 h2
   rw [a1,a2,b1,b2]
   refine QB<|wA rfl<|wA rfl<|QA (GF rfl rfl (by omega))<|wA rfl<|wA rfl<|QA (GF rfl rfl (by omega))<|QA (Qs rfl rfl (by omega))<|wA rfl<|wA rfl<|QA (GF rfl rfl (by omega))<|QH rfl (fun w F hF h9=>gz hF (by omega) (by omega) (e5)) (fun _=>wD rfl<|QS ?_)
   exact wH rfl rfl (by rw [Gi]) (fun F h9=>trivial)
  ·
   refine QO<|QC<|QG ?_
   have s1:=Jl x
   have s2:=Jf x
   have s3:=Jl y
   have s4:=Jf y
   have m1:=Vy x.num y.den
   have m2:=Vy y.num x.den
   have m3:=Vy (x.den:Int) y.den
   have m4:=Vy x.num y.num
   have m5:=U7 (x.num*y.den) (y.num*x.den)
   have e5:(x.den:Int)*y.den≠0:=aU (Y2 x) (Y2 y)
   refine QB<|wA rfl<|QH rfl (fun w F hF h9=>Bh hF (hx)) (fun c44=>wA rfl<|QA (QM rfl rfl)<|QA (QM rfl rfl)<|Qg Yw (fun b11=>Qg Yw (fun b12=>QR (vs:=[_,_]) rfl rfl rfl JW rfl .u1 .h2 wL<|QR (vs:=[_,_]) rfl rfl rfl JW rfl .here .h2 wL<|wC<|wF rfl<|QH rfl (fun w F hF h9=>Bh hF (hy)) (fun c49=>wA rfl<|QA (QM rfl rfl)<|QA (QM rfl rfl)<|Qg Yw (fun b13=>Qg Yw (fun b14=>QR (vs:=[_,_]) rfl rfl rfl JW rfl .u1 .h2 wL<|QR (vs:=[_,_]) rfl rfl rfl JW rfl .here .h2 wL<|QE<|QC ?_))))))
   refine QG<|JV wG mixed (by kernel_rfl)<|QK (QJ (vs:=[_,_]) rfl JW .u3 .h2 rfl)<|QK (QJ (vs:=[_,_]) rfl JW .here .h2 rfl)<|Qd rfl (fun w F hF h9=>Hp hF (h9.1.2.1) (h9.2.2) (by omega) (by omega)) (fun c54=>QK (QJ (vs:=[_,_]) rfl JW .u1 .h2 rfl)<|QK (QJ (vs:=[_,_]) rfl JW .u2 .h2 rfl)<|Qd rfl (fun w F hF h9=>Hp hF (h9.1.2.1) (h9.1.1.2.2) (by omega) (by omega)) (fun c57=>Qd rfl (fun w F hF h9=>ko hF (h9.1.2) (h9.2) (by omega) (by omega)) (fun c58=>QK (QJ (vs:=[_,_]) rfl JW .u2 .h2 rfl)<|QK (QJ (vs:=[_,_]) rfl JW .here .h2 rfl)<|Qd rfl (fun w F hF h9=>Hp hF (h9.1.1.1.1.2.2) (h9.1.1.1.2.2) (by omega) (by omega)) (fun c61=>Qd rfl (fun w F hF h9=>EG hF (h9.1.2) (h9.2) (e5) (by omega) (by omega)) (fun _=>QK (QF rfl)<|Q3<|QC<|QS ?_)))))
   exact wH rfl rfl (by rw [Gi]) (fun F h9=>trivial)
 ·
  refine QN rfl rfl rfl<|QA (Qh rfl rfl rfl)<|wC<|YQ rfl<|QO<|QC<|QG ?_
  have s1:=Jl x
  have s2:=Jf x
  have s3:=Jl y
  have s4:=Jf y
  have m1:=Vy x.num y.den
  have m2:=Vy y.num x.den
  have m3:=Vy (x.den:Int) y.den
  have m4:=Vy x.num y.num
  have m5:=U7 (x.num*y.den) (y.num*x.den)
  have e5:(x.den:Int)*y.den≠0:=aU (Y2 x) (Y2 y)
  refine QB<|wA rfl<|QH rfl (fun w F hF h9=>Bh hF (hx)) (fun c44=>wA rfl<|QA (QM rfl rfl)<|QA (QM rfl rfl)<|Qg Yw (fun b11=>Qg Yw (fun b12=>QR (vs:=[_,_]) rfl rfl rfl JW rfl .u1 .h2 wL<|QR (vs:=[_,_]) rfl rfl rfl JW rfl .here .h2 wL<|wC<|wF rfl<|QH rfl (fun w F hF h9=>Bh hF (hy)) (fun c49=>wA rfl<|QA (QM rfl rfl)<|QA (QM rfl rfl)<|Qg Yw (fun b13=>Qg Yw (fun b14=>QR (vs:=[_,_]) rfl rfl rfl JW rfl .u1 .h2 wL<|QR (vs:=[_,_]) rfl rfl rfl JW rfl .here .h2 wL<|QE<|QC ?_))))))
  refine QG<|JV wG mixed (by kernel_rfl)<|QK (QJ (vs:=[_,_]) rfl JW .u3 .h2 rfl)<|QK (QJ (vs:=[_,_]) rfl JW .here .h2 rfl)<|Qd rfl (fun w F hF h9=>Hp hF (h9.1.2.1) (h9.2.2) (by omega) (by omega)) (fun c54=>QK (QJ (vs:=[_,_]) rfl JW .u1 .h2 rfl)<|QK (QJ (vs:=[_,_]) rfl JW .u2 .h2 rfl)<|Qd rfl (fun w F hF h9=>Hp hF (h9.1.2.1) (h9.1.1.2.2) (by omega) (by omega)) (fun c57=>Qd rfl (fun w F hF h9=>ko hF (h9.1.2) (h9.2) (by omega) (by omega)) (fun c58=>QK (QJ (vs:=[_,_]) rfl JW .u2 .h2 rfl)<|QK (QJ (vs:=[_,_]) rfl JW .here .h2 rfl)<|Qd rfl (fun w F hF h9=>Hp hF (h9.1.1.1.1.2.2) (h9.1.1.1.2.2) (by omega) (by omega)) (fun c61=>Qd rfl (fun w F hF h9=>EG hF (h9.1.2) (h9.2) (e5) (by omega) (by omega)) (fun _=>QK (QF rfl)<|Q3<|QC<|QS ?_)))))
  exact wH rfl rfl (by rw [Gi]) (fun F h9=>trivial)
theorem dA {w:ak} {F:Gs} {x y:Rat} (hF:Fits F w) (hx:JL x≤100000) (hy:JL y≤100000):QZ Tryz.prog 93 [tx (JN x),tx (JN y)] w F (tx (JN (x*y))):=by
 refine QT.intro (G:=fun F=>True) Tryz.func93 rfl (by rfl) rfl rfl hF (fun F' hF'=>trivial)<|wE<|wD rfl<|wF rfl<|QH rfl (fun w F hF hT=>FR hF (hx)) (fun c17=>JO _ (fun w F hF h9=>h9.2) (fun p17=>wA rfl<|QA (QM rfl rfl)<|QA (QM rfl rfl)<|QA (QM rfl rfl)<|wB rfl<|wB rfl<|wD rfl<|wF rfl<|QH rfl (fun w F hF h9=>FR hF (hy)) (fun c23=>JO _ (fun w F hF h9=>h9.2) (fun p23=>?_))))
 refine wA rfl<|QA (QM rfl rfl)<|QA (QM rfl rfl)<|QA (QM rfl rfl)<|wB rfl<|wB rfl<|wD rfl<|QG<|wF rfl<|wA rfl ?_
 refine Qn (t:=28) rfl (fun hb28=>?_) (fun hb28=>?_)
 ·
  refine QL rfl rfl<|wA rfl<|QA (Qi rfl rfl rfl)<|QE<|QC ?_
  refine QQ rfl (fun hc=>?_) (fun hc=>?_)
  ·
   refine QG ?_
   obtain ⟨a1,a2,a3,a4⟩:=p17 hb28
   obtain ⟨b1,b2,b3,b4⟩:=p23 hc
   have xd:=x.den_pos
   have yd:=y.den_pos
   have e1:(x.num*y.den).natAbs<1000000000*1000000000:=by rw [aJ];exact au a3 (by omega)
   have e2:(y.num*x.den).natAbs<1000000000*1000000000:=by rw [aJ];exact au b3 (by omega)
   have e3:(x.num*y.num).natAbs<1000000000*1000000000:=by rw [aJ];exact au a3 b3
   have e4:((x.den:Int)*y.den).natAbs<1000000000*1000000000:=by rw [aJ];exact au (by omega) (by omega)
   have e5:(x.den:Int)*y.den≠0:=by have h1:=Y2 x;have h2:=Y2 y;exact aU h1 h2
   rw [a1,a2,b1,b2]
   refine QB<|wA rfl<|wA rfl<|QA (GF rfl rfl (by omega))<|wA rfl<|wA rfl<|QA (GF rfl rfl (by omega))<|QH rfl (fun w F hF h9=>gz hF (by omega) (by omega) (e5)) (fun _=>wD rfl<|QS ?_)
   exact wH rfl rfl (by rw [Gb]) (fun F h9=>trivial)
  ·
   refine QO<|QC<|QG ?_
   have s1:=Jl x
   have s2:=Jf x
   have s3:=Jl y
   have s4:=Jf y
   have m1:=Vy x.num y.den
   have m2:=Vy y.num x.den
   have m3:=Vy (x.den:Int) y.den
   have m4:=Vy x.num y.num
   have m5:=U7 (x.num*y.den) (y.num*x.den)
   have e5:(x.den:Int)*y.den≠0:=aU (Y2 x) (Y2 y)
   refine QB<|wA rfl<|QH rfl (fun w F hF h9=>Bh hF (hx)) (fun c40=>wA rfl<|QA (QM rfl rfl)<|QA (QM rfl rfl)<|Qg Yw (fun b11=>Qg Yw (fun b12=>QR (vs:=[_,_]) rfl rfl rfl JW rfl .u1 .h2 wL<|QR (vs:=[_,_]) rfl rfl rfl JW rfl .here .h2 wL<|wC<|wF rfl<|QH rfl (fun w F hF h9=>Bh hF (hy)) (fun c45=>wA rfl<|QA (QM rfl rfl)<|QA (QM rfl rfl)<|Qg Yw (fun b13=>Qg Yw (fun b14=>QR (vs:=[_,_]) rfl rfl rfl JW rfl .u1 .h2 wL<|QR (vs:=[_,_]) rfl rfl rfl JW rfl .here .h2 wL<|QE<|QC ?_))))))
   refine QG<|JV wG mixed (by kernel_rfl)<|QK (QJ (vs:=[_,_]) rfl JW .u3 .h2 rfl)<|QK (QJ (vs:=[_,_]) rfl JW .u1 .h2 rfl)<|Qd rfl (fun w F hF h9=>Hp hF (h9.1.2.1) (h9.2.1) (by omega) (by omega)) (fun c50=>QK (QJ (vs:=[_,_]) rfl JW .u2 .h2 rfl)<|QK (QJ (vs:=[_,_]) rfl JW .here .h2 rfl)<|Qd rfl (fun w F hF h9=>Hp hF (h9.1.1.2.2) (h9.1.2.2) (by omega) (by omega)) (fun c53=>Qd rfl (fun w F hF h9=>EG hF (h9.1.2) (h9.2) (e5) (by omega) (by omega)) (fun _=>QK (QF rfl)<|Q3<|QC<|QS ?_)))
   exact wH rfl rfl (by rw [Gb]) (fun F h9=>trivial)
 ·
  refine QN rfl rfl rfl<|QA (Qh rfl rfl rfl)<|wC<|YQ rfl<|QO<|QC<|QG ?_
  have s1:=Jl x
  have s2:=Jf x
  have s3:=Jl y
  have s4:=Jf y
  have m1:=Vy x.num y.den
  have m2:=Vy y.num x.den
  have m3:=Vy (x.den:Int) y.den
  have m4:=Vy x.num y.num
  have m5:=U7 (x.num*y.den) (y.num*x.den)
  have e5:(x.den:Int)*y.den≠0:=aU (Y2 x) (Y2 y)
  refine QB<|wA rfl<|QH rfl (fun w F hF h9=>Bh hF (hx)) (fun c40=>wA rfl<|QA (QM rfl rfl)<|QA (QM rfl rfl)<|Qg Yw (fun b11=>Qg Yw (fun b12=>QR (vs:=[_,_]) rfl rfl rfl JW rfl .u1 .h2 wL<|QR (vs:=[_,_]) rfl rfl rfl JW rfl .here .h2 wL<|wC<|wF rfl<|QH rfl (fun w F hF h9=>Bh hF (hy)) (fun c45=>wA rfl<|QA (QM rfl rfl)<|QA (QM rfl rfl)<|Qg Yw (fun b13=>Qg Yw (fun b14=>QR (vs:=[_,_]) rfl rfl rfl JW rfl .u1 .h2 wL<|QR (vs:=[_,_]) rfl rfl rfl JW rfl .here .h2 wL<|QE<|QC ?_))))))
  refine QG<|JV wG mixed (by kernel_rfl)<|QK (QJ (vs:=[_,_]) rfl JW .u3 .h2 rfl)<|QK (QJ (vs:=[_,_]) rfl JW .u1 .h2 rfl)<|Qd rfl (fun w F hF h9=>Hp hF (h9.1.2.1) (h9.2.1) (by omega) (by omega)) (fun c50=>QK (QJ (vs:=[_,_]) rfl JW .u2 .h2 rfl)<|QK (QJ (vs:=[_,_]) rfl JW .here .h2 rfl)<|Qd rfl (fun w F hF h9=>Hp hF (h9.1.1.2.2) (h9.1.2.2) (by omega) (by omega)) (fun c53=>Qd rfl (fun w F hF h9=>EG hF (h9.1.2) (h9.2) (e5) (by omega) (by omega)) (fun _=>QK (QF rfl)<|Q3<|QC<|QS ?_)))
  exact wH rfl rfl (by rw [Gb]) (fun F h9=>trivial)
theorem gu {w:ak} {F:Gs} {x y:Rat} (hF:Fits F w) (hx:JL x≤100000) (hy:JL y≤100000):QZ Tryz.prog 32 [tx (JN x),tx (JN y)] w F (tx (JN (x - y))):=by
 have hly:=V6 y
 refine QT.intro (G:=fun F=>True) Tryz.func32 rfl (by rfl) rfl rfl hF (fun F' hF'=>trivial)<|wE<|wD rfl<|wF rfl<|wA rfl<|QH rfl (fun w F hF hT=>cM hF (by omega)) (fun _=>?_)
 rw [vH]
 refine QH rfl (fun w F hF h9=>qt hF (hx) (by rw [GB];exact hy)) (fun _=>wD rfl<|QS ?_)
 exact wH rfl rfl (by rw [Rat.sub_eq_add_neg]) (fun F h9=>trivial)
theorem OR {w:ak} {F:Gs} {x y:Rat} (hF:Fits F w) (hx:JL x≤30000) (hy:JL y≤30000):QZ Tryz.prog 30 [tx (JN x),tx (JN y)] w F (.int .i64 (Wr x y)):=by
 refine QT.intro (G:=fun F=>True) Tryz.func30 rfl (by rfl) rfl rfl hF (fun F' hF'=>trivial)<|wE<|wD rfl<|wF rfl<|wA rfl<|QH rfl (fun w F hF hT=>gu hF (by omega) (by omega)) (fun _=>QH rfl (fun w F hF h9=>Ld hF ) (fun _=>wD rfl<|QS ?_))
 exact wH rfl rfl (by rw [xV,ud]) (fun F h9=>trivial)
theorem vb {w:ak} {F:Gs} {s:List UInt8} (hF:Fits F w) (hl:s.length≤1000000) (h1:XK (aa (s.take (ahead XY s)) [45])=true) (h2:ahead XY s<s.length→XK (aa (s.drop (ahead XY s+1)) [45])=true):QT Tryz.prog 119 [tx s] w F Ri.v2 (fun c F=>Vi F c.1 (YA (s.take (ahead XY s)))∧(ahead XY s<s.length→Vi F c.2 (YA (s.drop (ahead XY s+1))))):=by
 have hah:=DI XY s
 refine QT.intro (G:=fun F=>True) Tryz.func119 rfl (by rfl) rfl rfl hF (fun F' hF'=>trivial)<|wE<|Qg Yw (fun b2=>Qg Yw (fun b3=>wC<|wF rfl<|wD rfl<|wF rfl<|QH rfl (fun w F hF hT=>ED hF (by omega)) (fun _=>wD rfl<|QG<|wF rfl<|wA rfl ?_)))
 refine QA (XF rfl Xp)<|QA (QU rfl rfl rfl)<|QE<|QC ?_
 refine QQ rfl (fun hc=>?_) (fun hc=>?_)
 ·
  have hd:ahead XY s=s.length:=by have:(ahead XY s:Int)=(s.length:Int):=(by simpa using hc);omega
  refine wF rfl<|QH rfl (fun w F hF h9=>Hq hF (by rw [hd,ar] at h1;exact h1) (by omega)) (fun c14=>QH rfl (fun w F hF h9=>Ml hF (by decide)) (fun c15=>QR (vs:=[_,_]) rfl rfl rfl JW rfl .u1 .h2 wL<|QR (vs:=[_,_]) rfl rfl rfl JW rfl .here .h2 wL<|wC<|QS ?_))
  exact Ja ((c14,c15):Ri×Ri) rfl (.Jd (c:=[_,_]) rfl JW .u1 (.Jd (c:=[_,_]) rfl JW .here .nil)) (rfl) (fun F h9=>⟨by rw [hd,ar];exact h9.1.2,fun g=>by omega⟩)
 ·
  have hd:ahead XY s<s.length:=by rcases bE (ahead XY s) s.length with g | g;exact g;exact absurd (show ahead XY s=s.length by omega) (fun e=>by rw [e] at hc;simp at hc)
  refine QO<|QC<|QG<|JV (.cons _ (.cons _ .slnil)) mixed (by kernel_rfl)<|QK (QD rfl)<|QK (QD rfl)<|QK (Hx (ahead XY s) rfl rfl Xp rfl (by omega))<|Qd rfl (fun w F hF h9=>Hq hF (h1) (by rw [aw];omega)) (fun c19=>QK (QD rfl)<|QK (QD rfl)<|QK (Qs rfl rfl (by omega))<|QK (K4 ((ahead XY s+1)) rfl rfl Xp (congrArg (fun z:Int=>some (ah .i64 z)) (by omega)) (by omega))<|Qd rfl (fun w F hF h9=>Hq hF (h2 hd) (by rw [aI];omega)) (fun c24=>JE (vs:=[_,_]) rfl rfl rfl JW rfl .u1 (.cons _ .slnil) (fun _ h=>h.1.1) .h2 wL<|JE (vs:=[_,_]) rfl rfl rfl JW rfl .here (.cons _ .slnil) (fun _ h=>h.1.1) .h2 wL<|Q3<|QC<|QS ?_))
  exact Ja ((c19,c24):Ri×Ri) rfl (.Jd (c:=[_,_]) rfl JW .u1 (.Jd (c:=[_,_]) rfl JW .here .nil)) (rfl) (fun F h9=>⟨h9.1.2,fun _=>h9.2⟩)
theorem Lt {l:List UInt8} (h:(!XV l)=false):0<l.length:=by
 rcases aV l.length with g | g
 ·rw [ax g] at h;simp [XV] at h
 ·exact g
theorem p5 {p:UInt8→Bool} {s:List UInt8} (h:∀ c∈s,p c=true):s.takeWhile p=s:=by
 induction s with
 |nil=>rfl
 |cons c r ih=>rw [List.takeWhile_cons_of_pos (h c (by simp)),ih (fun d hd=>h d (by simp [hd]))]
theorem ki {l:List UInt8} (h:XK l=true):sz (JA l:Int)≤4*l.length:=by
 rw [XR]
 have h1:=Vn h
 have h2:10^l.length≤2^(4*l.length):=by rw [fv];exact eL (by decide) _
 simp;omega
theorem gG (s:List UInt8):(Zb 47 s).1=s.take (ahead XY s)∧(Zb 47 s).2.1=s.drop (ahead XY s+1)∧(Zb 47 s).2.2=decide (ahead XY s<s.length):=by
 have hf:(fun c:UInt8=>!XY c)=fun c=>c != 47:=by funext c;simp [XY,bne]
 have h1:=VG (fun c:UInt8=>c != 47) s
 have ha:ahead XY s=(s.takeWhile (fun c=>c != 47)).length:=by unfold ahead;rw [hf]
 rw [ha]
 by_cases hc:s.contains 47=true
 ·have e:Zb 47 s=(s.takeWhile (· != 47),(s.dropWhile (· != 47)).drop 1,true):=by unfold Zb;rw [if_pos hc]
  rw [e]
  obtain ⟨r,hr⟩:=D2 (show(47:UInt8)∈s by simpa using hc)
  have hd:=h1.2
  rw [hr] at hd
  refine⟨h1.1.symm,?_,?_⟩
  ·show(s.dropWhile (· != 47)).drop 1=_
   rw [hr,← List.drop_drop,hd]
  ·have:(s.takeWhile (fun c=>c != 47)).length<s.length:=by
    have:=congrArg eB hd
    rw [aI,aF] at this;omega
   simp [this]
 ·have e:Zb 47 s=(s,[],false):=by unfold Zb;rw [if_neg hc]
  rw [e]
  have h2:s.takeWhile (fun c=>c != 47)=s:=by
   refine p5 fun c hm=>?_
   have:c≠47:=by rintro rfl;exact hc (by simpa using hm)
   simpa using this
  rw [h2]
  simp
theorem gY (s:List UInt8):aa (Zb 47 s).1 [45]=(Zb 47 (aa s [45])).1∧az (Zb 47 s).1 [45]=az s [45]∧(Zb 47 s).2=(Zb 47 (aa s [45])).2:=by
 cases s with
 |nil=>exact⟨rfl,rfl,rfl⟩
 |cons c r =>
  by_cases hc:c=45
  ·subst hc
   have e:aa (45::r) [45]=r:=rfl
   rw [e]
   unfold Zb
   have h0:((45:UInt8)::r).contains 47=r.contains 47:=by simp
   rw [h0]
   split
   ·exact⟨rfl,rfl,rfl⟩
   ·exact⟨rfl,rfl,rfl⟩
  ·have hp:az (c::r) [45]=false:=by
    rw [GY (by simp)];simpa using hc
   have e:aa (c::r) [45]=c::r:=by unfold aa;rw [if_neg (by rw [hp];decide)]
   rw [e]
   have e2:∀ l:List UInt8,az l [45]=false→aa l [45]=l:=fun l h=>by unfold aa;rw [if_neg (by rw [h];decide)]
   have h3:az (Zb 47 (c::r)).1 [45]=false:=by
    unfold Zb
    split
    ·by_cases h47:c=47
     ·subst h47;rfl
     ·rw [List.takeWhile_cons_of_pos (by simpa using h47),GY (by simp)];simpa using hc
    ·exact hp
   exact⟨e2 _ h3,by rw [h3,hp],rfl⟩
theorem uf {s:List UInt8} (h1:La s=false) (h2:LI s=false) (hk:ahead XY (aa s [45])<(aa s [45]).length):XK ((aa s [45]).take (ahead XY (aa s [45])))=true∧XK (MJ s)=true:=by
 have hs:Pm s=true:=by simp [Pm];exact hk
 simp only [La,aR,bj] at h1
 simp only [LI,hs,fe,aR,bj] at h2
 exact⟨VM h1.1,VM h2.1⟩
theorem gD (s:List UInt8):Si s=Jg s:=by
 obtain ⟨t1,t2,t3⟩:=gY s
 obtain ⟨c1,c2,c3⟩:=gG (aa s [45])
 have t4:(Zb 47 s).2.1=MJ s:=by rw [t3,c2];rfl
 have t5:(Zb 47 s).2.2=Pm s:=by rw [t3,c3];rfl
 have hlen:(aa s [45]).take (ahead XY (aa s [45]))=(aa s [45]).take (ahead XY (aa s [45])):=rfl
 have hk:((aa s [45]).take (ahead XY (aa s [45]))).length=ahead XY (aa s [45]):=by
  rw [aw];have:=DI XY (aa s [45]);omega
 unfold Jg W7 Si Us La LI LZ CP
 rw [t1,t2,t4,t5,c1,hk]
 generalize (aa s [45]).take (ahead XY (aa s [45]))=a
 generalize MJ s=d
 generalize Pm s=f
 generalize az s [45]=n
 have e:(!XV a||(n&&a==[48])||(f&&(!XV d||d==[48]||d==[49])))=((!XV a||(n&&a==[48]))||(f&&(!XV d||(d==[48]||d==[49])))):=by rw [Bool.or_assoc (!XV d)]
 rw [e]
 cases (!XV a||(n&&a==[48]))<;>cases (f&&(!XV d||(d==[48]||d==[49])))<;>rfl
theorem qD {w:ak} {F:Gs} {s:List UInt8} (hF:Fits F w) (hl:s.length≤9223372036854775807):QZ Tryz.prog 20 [tx s] w F (.int .i64 (Jg s)):=by
 rw [← gD]
 have hln:(aa s [45]).length≤s.length:=D5 _ _
 have hah:=DI XY (aa s [45])
 refine QT.intro (G:=fun F=>True) Tryz.func20 rfl (by rfl) rfl rfl hF (fun F' hF'=>trivial)<|wE<|wD rfl<|wF rfl<|wB rfl<|QE<|QC ?_
 refine Kz [(0,_)] [(3,tx (aa s [45]))] wK ?_ ?_
 ·
  refine Kz [(0,_),(3,_)] [(16,.bool (az s [45]))] wL ?_ ?_
  ·
   refine QB<|wA rfl<|QA (XF rfl Xp)<|QA (QU rfl rfl rfl)<|wA rfl ?_
   refine Qn (t:=12) rfl (fun hb12=>?_) (fun hb12=>?_)
   ·
    refine QL rfl rfl<|wA rfl<|QL rfl rfl<|QA (WA (i:=0) rfl rfl Xp (by have:=wI hb12;omega))<|QL rfl rfl<|QA (QU rfl rfl rfl)<|QA (Qi rfl rfl rfl)<|QE ?_
    exact ZI ⟨rfl,rfl,(congrArg (fun b=>some (ab b)) (by have h0:0<s.length:=(by have:=wI hb12;omega);rw [GY h0];exact E2 rfl)),trivial⟩ wG (fun _ h=>h)
   ·
    refine QN rfl rfl rfl<|QN rfl rfl rfl<|QN rfl rfl rfl<|QA (Qh rfl rfl rfl)<|QE ?_
    exact ZI ⟨rfl,rfl,(congrArg (fun b=>some (ab b)) (by have h0:s.length=0:=(by have:=wJ hb12;omega);rw [ax h0];rfl)),trivial⟩ wG (fun _ h=>h)
  ·
   simp only [ae,af]
   refine QQ rfl (fun hc=>?_) (fun hc=>?_)
   ·
    refine QB<|wA rfl<|QA (K4 (1) rfl rfl Xp rfl (NG hc))<|wB rfl<|QE ?_
    exact ZI ⟨rfl,(congrArg (fun l=>some (tx l)) (by unfold aa;rw [if_pos hc];rfl)),trivial⟩ wG (fun _ h=>h)
   ·
    refine QO ?_
    exact ZI ⟨rfl,(congrArg (fun l=>some (tx l)) (by unfold aa;rw [hc];rfl)),trivial⟩ wG (fun _ h=>h)
 ·
  simp only [ae,af]
  refine wF rfl<|QH rfl (fun w F hF hT=>ED hF (by omega)) (fun _=>wD rfl<|QG ?_)
  refine Kz [(3,_),(4,_)] [(36,.bool (La s))] wL ?_ ?_
  ·
   refine QB<|wA rfl<|wA rfl<|QA (Hx ((ahead XY (aa s [45]))) rfl rfl Xp rfl (by omega))<|QH rfl (fun w F hF h9=>kq hF (by rw [aw];omega)) (fun _=>QA (Yc rfl)<|wA rfl ?_)
   refine Qn (t:=26) rfl (fun hb26=>?_) (fun hb26=>?_)
   ·
    refine QN rfl rfl rfl<|QN rfl rfl rfl<|QN rfl rfl rfl<|QN rfl rfl rfl<|JX rfl rfl<|JX rfl rfl<|JX rfl rfl<|JX rfl rfl<|QN rfl rfl rfl<|QA (Qi rfl rfl rfl)<|QE ?_
    exact ZI ⟨rfl,rfl,(congrArg (fun b=>some (ab b)) (by simp [La] at hb26 ⊢;simp [hb26])),trivial⟩ wG (fun _ h=>h.1)
   ·
    refine QL rfl rfl<|wA rfl<|QL rfl rfl<|QA (WA (i:=0) rfl rfl E3 (by have h1:=Lt hb26;rw [aw] at h1;omega))<|QL rfl rfl<|QA (QU rfl rfl rfl)<|QL rfl rfl<|wA rfl ?_
    refine Qn (t:=30) rfl (fun hb30=>?_) (fun hb30=>?_)
    ·
     refine QL rfl rfl<|wA rfl<|QL rfl rfl<|wA rfl<|QL rfl rfl<|QA (Hx ((ahead XY (aa s [45]))) rfl rfl Xp rfl (by omega))<|QL rfl rfl<|QA (K3 rfl rfl)<|QL rfl rfl<|QA (Qi rfl rfl rfl)<|QA (Qh rfl rfl rfl)<|QE ?_
     exact ZI ⟨rfl,rfl,(congrArg (fun b=>some (ab b)) (by have h0:0<s.length:=(by have h1:=Lt hb26;rw [aw] at h1;omega);have hp:az s [45]=true:=(by rw [GY h0,← E2 (z:=45) rfl];exact hb30);simp [La] at hb26 ⊢;simp [hb26,hp])),trivial⟩ wG (fun _ h=>h.1)
    ·
     refine QN rfl rfl rfl<|QN rfl rfl rfl<|QN rfl rfl rfl<|QN rfl rfl rfl<|QL rfl rfl<|QA (Qh rfl rfl rfl)<|QA (Qh rfl rfl rfl)<|QE ?_
     exact ZI ⟨rfl,rfl,(congrArg (fun b=>some (ab b)) (by have h0:0<s.length:=(by have h1:=Lt hb26;rw [aw] at h1;omega);have hp:az s [45]=false:=(by rw [GY h0,← E2 (z:=45) rfl];exact hb30);simp [La] at hb26 ⊢;simp [hb26,hp])),trivial⟩ wG (fun _ h=>h.1)
  ·
   simp only [ae,af]
   refine QQ rfl (fun hc=>?_) (fun hc=>?_)
   ·
    have hb1:La s=true:=hc
    refine wE<|wD rfl<|QS ?_
    exact wH rfl rfl (congrArg (ah .i64) (by simp [Si,hb1])) (fun F h9=>trivial)
   ·
    have hb1:La s=false:=hc
    refine QO<|QC<|QG ?_
    refine Kz [(3,_),(4,_)] [(62,.bool (LI s))] wL ?_ ?_
    ·
     refine QB<|wA rfl<|wA rfl<|QA (XF rfl Xp)<|QA (QU rfl rfl rfl)<|wA rfl ?_
     refine Qn (t:=41) rfl (fun hb41=>?_) (fun hb41=>?_)
     ·
      refine QL rfl rfl<|wA rfl<|QL rfl rfl<|wA rfl<|QL rfl rfl<|QA (Qs rfl rfl (by first | omega | (simp only [decide_eq_true_eq] at *;omega)))<|QL rfl rfl<|QA (K4 (((ahead XY (aa s [45]))+1)) rfl rfl Xp (congrArg (fun z:Int=>some (ah .i64 z)) (by omega)) (by have:=wI hb41;omega))<|QL rfl rfl<|QH rfl (fun w F hF h9=>kq hF (by rw [aI];omega)) (fun _=>QL rfl rfl<|QA (Yc rfl)<|QL rfl rfl<|wA rfl ?_)
      refine Qn (t:=48) rfl (fun hb48=>?_) (fun hb48=>?_)
      ·
       refine QN rfl rfl rfl<|QN rfl rfl rfl<|QN rfl rfl rfl<|QN rfl rfl rfl<|QN rfl rfl rfl<|QL rfl rfl<|QA (Qi rfl rfl rfl)<|QL rfl rfl<|wA rfl<|QN rfl rfl rfl<|QN rfl rfl rfl<|QN rfl rfl rfl<|QN rfl rfl rfl<|QN rfl rfl rfl<|QL rfl rfl<|QA (Qi rfl rfl rfl)<|QA (Qi rfl rfl rfl)<|QE ?_
       exact ZI ⟨rfl,rfl,(congrArg (fun b=>some (ab b)) (by have h1:Pm s=true:=(by simp [Pm];simpa using hb41);simp [LI,h1];simp at hb48;exact .inl hb48)),trivial⟩ wG (fun _ h=>h.1)
      ·
       refine QL rfl rfl<|wA rfl<|QL rfl rfl<|wA rfl<|QL rfl rfl<|QA (Qs rfl rfl (by first | omega | (simp only [decide_eq_true_eq] at *;omega)))<|QL rfl rfl<|QA (K4 (((ahead XY (aa s [45]))+1)) rfl rfl Xp (congrArg (fun z:Int=>some (ah .i64 z)) (by omega)) (by have:=wI hb41;omega))<|QL rfl rfl<|QA (K3 rfl rfl)<|QL rfl rfl<|QA (Qh rfl rfl rfl)<|QL rfl rfl<|wA rfl ?_
       refine Qn (t:=55) rfl (fun hb55=>?_) (fun hb55=>?_)
       ·
        refine QN rfl rfl rfl<|QN rfl rfl rfl<|QN rfl rfl rfl<|QN rfl rfl rfl<|QN rfl rfl rfl<|QL rfl rfl<|QA (Qi rfl rfl rfl)<|QA (Qi rfl rfl rfl)<|QE ?_
        exact ZI ⟨rfl,rfl,(congrArg (fun b=>some (ab b)) (by have h1:Pm s=true:=(by simp [Pm];simpa using hb41);simp [LI,h1];exact .inr (.inl (by simpa [MJ] using hb55)))),trivial⟩ wG (fun _ h=>h.1)
       ·
        refine QL rfl rfl<|wA rfl<|QL rfl rfl<|wA rfl<|QL rfl rfl<|QA (Qs rfl rfl (by first | omega | (simp only [decide_eq_true_eq] at *;omega)))<|QL rfl rfl<|QA (K4 (((ahead XY (aa s [45]))+1)) rfl rfl Xp (congrArg (fun z:Int=>some (ah .i64 z)) (by omega)) (by have:=wI hb41;omega))<|QL rfl rfl<|QA (K3 rfl rfl)<|QL rfl rfl<|QA (Qh rfl rfl rfl)<|QA (Qi rfl rfl rfl)<|QE ?_
        exact ZI ⟨rfl,rfl,(congrArg (fun b=>some (ab b)) (by have h1:Pm s=true:=(by simp [Pm];simpa using hb41);simp at hb48 hb55;simp [LI,h1,MJ,hb48,hb55])),trivial⟩ wG (fun _ h=>h.1)
     ·
      refine QN rfl rfl rfl<|QN rfl rfl rfl<|QN rfl rfl rfl<|QN rfl rfl rfl<|QN rfl rfl rfl<|QN rfl rfl rfl<|QN rfl rfl rfl<|JX rfl rfl<|JX rfl rfl<|JX rfl rfl<|JX rfl rfl<|JX rfl rfl<|QN rfl rfl rfl<|QN rfl rfl rfl<|JX rfl rfl<|JX rfl rfl<|JX rfl rfl<|JX rfl rfl<|JX rfl rfl<|QN rfl rfl rfl<|QA (Qh rfl rfl rfl)<|QE ?_
      exact ZI ⟨rfl,rfl,(congrArg (fun b=>some (ab b)) (by have h1:Pm s=false:=(by simp [Pm];simpa using hb41);simp [LI,h1])),trivial⟩ wG (fun _ h=>h)
    ·
     simp only [ae,af]
     refine QQ rfl (fun hc=>?_) (fun hc=>?_)
     ·
      have hb2:LI s=true:=hc
      refine wE<|wD rfl<|QS ?_
      exact wH rfl rfl (congrArg (ah .i64) (by simp [Si,hb1,hb2])) (fun F h9=>trivial)
     ·
      have hb2:LI s=false:=hc
      refine QO<|QC<|QG ?_
      refine Kz [(3,_),(4,_)] [(72,.bool (LZ s))] wL ?_ ?_
      ·
       refine QB<|wA rfl<|QA (QU rfl rfl rfl)<|wA rfl ?_
       refine Qn (t:=65) rfl (fun hb65=>?_) (fun hb65=>?_)
       ·
        refine QN rfl rfl rfl<|QN rfl rfl rfl<|QN rfl rfl rfl<|QN rfl rfl rfl<|QN rfl rfl rfl<|QN rfl rfl rfl<|QA (Qi rfl rfl rfl)<|QE ?_
        exact ZI ⟨rfl,rfl,(congrArg (fun b=>some (ab b)) (by have:=wI hb65;simp [LZ];left;omega)),trivial⟩ wG (fun _ h=>h)
       ·
        refine QL rfl rfl<|wA rfl<|QL rfl rfl<|QA (XF rfl Xp)<|QL rfl rfl<|wA rfl<|QL rfl rfl<|QA (XB rfl rfl (by omega))<|QL rfl rfl<|QA (XB rfl rfl (by omega))<|QL rfl rfl<|QA (QU rfl rfl rfl)<|QA (Qh rfl rfl rfl)<|QE ?_
        exact ZI ⟨rfl,rfl,(congrArg (fun b=>some (ab b)) (by rw [aC];have:=wJ hb65;simp [LZ,MJ];omega)),trivial⟩ wG (fun _ h=>h)
      ·
       simp only [ae,af]
       refine QQ rfl (fun hc=>?_) (fun hc=>?_)
       ·
        have hb3:LZ s=true:=hc
        refine wE<|wD rfl<|QS ?_
        exact wH rfl rfl (congrArg (ah .i64) (by simp [Si,hb1,hb2,hb3])) (fun F h9=>trivial)
       ·
        have hb3:LZ s=false:=hc
        have hk6:ahead XY (aa s [45])≤600:=by simp [LZ] at hb3;exact hb3.1
        refine QO<|QC<|QG<|wF rfl<|wA rfl<|QA (XF rfl Xp)<|QA (QU rfl rfl rfl)<|QE<|QC ?_
        refine QQ rfl (fun hc=>?_) (fun hc=>?_)
        ·
         have hk:ahead XY (aa s [45])<(aa s [45]).length:=by have:=wI hc;omega
         obtain ⟨da,dd⟩:=uf hb1 hb2 hk
         refine wF rfl<|QH rfl (fun w F hF h9=>vb hF (s:=(aa s [45])) (by have h6:(MJ s).length≤600:=(by simp [LZ] at hb3;exact hb3.2);have h7:(MJ s).length=(aa s [45]).length - (ahead XY (aa s [45])+1):=(by unfold MJ;rw [aI]);omega) (by rw [Zf da];exact da) (fun _=>by rw [show(List.drop (ahead XY (aa s [45])+1) (aa s [45]))=MJ s from rfl,Zf dd];exact dd)) (fun c79=>wA rfl<|QA (QM rfl rfl)<|QA (QM rfl rfl)<|Qg Yw (fun b5=>Qg Yw (fun b6=>QR (vs:=[_,_]) rfl rfl rfl JW rfl .u1 .h2 wL<|QR (vs:=[_,_]) rfl rfl rfl JW rfl .here .h2 wL<|wC<|QG<|ZA _ (fun w F hF h=>aD h.2.1.p (aD (h.2.2 hk).p (aD h.2.1.1.2.1 (h.2.2 hk).1.2.1))) (fun pp=>?_))))
         obtain ⟨pa,pd,na,nd⟩:=pp
         rw [XM da] at pa
         have pd2:=pd
         rw [show YA ((aa s [45]).drop (ahead XY (aa s [45])+1))=JA (MJ s) from XM dd] at pd2
         have la:=pa.len
         have ld:=pd2.len
         have sa:=ki da
         have sd:=ki dd
         have h600:(MJ s).length≤600:=by simp [LZ] at hb3;exact hb3.2
         rw [aw] at sa
         refine QB<|QA (QI rfl YF Qv)<|QA (Qm rfl Qv .u1 (.skip .h1))<|QA (QI rfl YF Qv)<|QA (Qm rfl Qv .here (.skip .h1)) ?_
         refine QH rfl (fun w F hF h9=>qC hF (a:=c79.1.l) (b:=c79.2.l) (ra:=c79.1.r) (rb:=c79.2.r) h9.2.1.1 ((h9.2.2 hk).1) (pa.dg) (pd.dg) (pa.nz) (pd.nz) (by omega) (by omega)) (fun c86=>?_);rcases c86 with ⟨v86,l86⟩;dsimp only
         refine JO _ (fun w F hF ⟨⟨⟨hT,_⟩,h79⟩,⟨h86,h86p⟩⟩=>aD h86.2 h86p) (fun p86=>wB rfl<|QE<|QC ?_)
         refine Kz [] [(95,.bool (CP s))] trivial ?_ ?_
         ·
          have hgc:dv B9 l86=(bh (JA ((aa s [45]).take (ahead XY (aa s [45])))) (JA (MJ s)):Nat):=by
           rw [p86.2.2.2,zN pa pd2];rfl
          have hone:=O1 p86.2.1 p86.2.2.1
          have hsl:Pm s=true:=by simp [Pm];exact hk
          refine QB<|wA rfl<|QA (Qj rfl Qf)<|QA (QU rfl rfl rfl)<|wA rfl ?_
          refine Qn (t:=90) rfl (fun hb90=>?_) (fun hb90=>?_)
          ·
           refine QN rfl rfl rfl<|QN rfl rfl rfl<|QN rfl rfl rfl<|QN rfl rfl rfl<|QA (Qi rfl rfl rfl)<|QE ?_
           exact ZI ⟨(congrArg (fun b=>some (ab b)) (by have h1:¬ l86.length=1:=(by simp at hb90;omega);rw [aC];simp [CP,hsl];intro g;exact h1 (hone.2 (by rw [hgc,g];rfl)).1)),trivial⟩ wG (fun _ h=>h)
          ·
           have hn1:v86.n=1:=by simp at hb90;omega
           refine QL rfl rfl<|wA rfl<|QL rfl rfl<|QA (JH (n:=v86.n) (0) (fun F h9=>(h9.2.1).1) rfl (congrArg (fun z:Int=>some (ah .i64 z)) (by omega)) Qf Qp (by omega))<|QL rfl rfl<|QA (JQ (n:=v86.n) ((0)*1) (fun F h9=>(h9.2.1).1) (by omega) rfl Qp (JJ (o:=l86) (by omega)))<|QL rfl rfl<|QA (QU rfl rfl rfl)<|QA (Qh rfl rfl rfl)<|QE ?_
           exact ZI ⟨(congrArg (fun b=>some (ab b)) (by have h1:l86.length=1:=(by omega);rw [aC];simp [CP,hsl];exact not_congr ⟨fun e=>by have h2:=hone.1 ⟨h1,e⟩;rw [hgc] at h2;omega,fun e=>(hone.2 (by rw [hgc,e];rfl)).2⟩)),trivial⟩ wG (fun _ h=>h)
         ·
          simp only [ae,af]
          refine QQ rfl (fun hc=>?_) (fun hc=>?_)
          ·
           have hg4:CP s=true:=hc
           refine wE<|wD rfl<|QS ?_
           exact wH rfl rfl (congrArg (ah .i64) (by simp [Si,hb1,hb2,hb3,hg4])) (fun F h9=>trivial)
          ·
           have hg4:CP s=false:=hc
           refine QO<|QC<|wE<|wD rfl<|QS ?_
           exact wH rfl rfl (congrArg (ah .i64) (by simp [Si,hb1,hb2,hb3,hg4])) (fun F h9=>trivial)
        ·
         have hg4:CP s=false:=by have:=wJ hc;simp [CP,Pm];intro g;omega
         refine QO<|QC<|wE<|wD rfl<|QS ?_
         exact wH rfl rfl (congrArg (ah .i64) (by simp [Si,hb1,hb2,hb3,hg4])) (fun F h9=>trivial)
theorem TO {w:ak} {F:Gs} {s:List UInt8} (hF:Fits F w) (hl:s.length≤1000000):QZ Tryz.prog 20 [tx s] w F (.int .i64 (Jg s)) :=
 qD hF (aq hl (by decide))
def xU (p:List UInt8×List UInt8):List aL:=[tx p.1,tx p.2]
theorem Rl (p:List UInt8×List UInt8):(xU p).length=2:=rfl
theorem kz {w:ak} {F:Gs} {a b:List UInt8} (hF:Fits F w) (ha:Jg a=0) (hb:Jg b=0):QZ Tryz.prog 30 [tx a,tx b] w F (.int .i64 (Wr (Jj a) (Jj b))):=by
 have h1:=XE ha
 have h2:=XE hb
 have:=OR (x:=Jj a) (y:=Jj b) hF (by omega) (by omega)
 rw [← (X6 ha).1,← (X6 hb).1] at this;exact this
theorem FT {w:ak} {F:Gs} {lo hi:List UInt8} (hF:Fits F w) (hl:lo.length≤1000000∧hi.length≤1000000):QZ Tryz.prog 21 [.agg #[tx lo,tx hi]] w F (.int .i64 (Jm lo hi)):=by
 refine QT.intro (G:=fun F=>True) Tryz.func21 rfl (by rfl) rfl rfl hF (fun F' hF'=>trivial)<|wE<|Q2 rfl (vs:=[_,_]) rfl (fun b1=>wD rfl<|wE<|QA (QI rfl WK Jo)<|QA (Qm rfl Jo .here .h1)<|QH rfl (fun w F hF hT=>TO hF (hl.1)) (fun _=>wB rfl<|QE<|QC ?_))
 refine Kz [(1,_)] [(3,.int .i64 (Ql [Jg lo,Jg hi]))] wK ?_ ?_
 ·
  refine wF rfl<|QA (QU rfl rfl rfl)<|QE<|QC ?_
  refine QQ rfl (fun hc=>?_) (fun hc=>?_)
  ·
   refine QB<|QA (QI rfl Wh Jo)<|QA (Qm rfl Jo .here (.skip .h1))<|QH rfl (fun w F hF h9=>TO hF (hl.2)) (fun _=>wB rfl<|QE ?_)
   exact ZI ⟨rfl,(congrArg (fun z:Int=>some (ah .i64 z)) (by simp [Ql];simp at hc;simp [hc])),trivial⟩ wG (fun _ h=>h.1)
  ·
   refine QO ?_
   exact ZI ⟨rfl,(congrArg (fun z:Int=>some (ah .i64 z)) (by simp [Ql];simp at hc;simp [hc])),trivial⟩ wG (fun _ h=>h)
 ·
  simp only [ae,af]
  refine QG<|wF rfl<|QA (QU rfl rfl rfl)<|wA rfl ?_
  refine Qn (t:=14) rfl (fun hb14=>?_) (fun hb14=>?_)
  ·
   refine QL rfl rfl ?_
   obtain ⟨k1,k2⟩:=YN (by simpa using hb14)
   refine QA (QI rfl WK Jo)<|QL rfl rfl<|QA (Qm rfl Jo .here .h1)<|QL rfl rfl<|QA (QI rfl Wh Jo)<|QL rfl rfl<|QA (Qm rfl Jo .here (.skip .h1))<|QL rfl rfl<|QH rfl (fun w F hF h9=>kz hF (k1) (k2)) (fun _=>QL rfl rfl<|QA (QU rfl rfl rfl)<|QA (Qi rfl rfl rfl)<|QE<|QC ?_)
   refine QQ rfl (fun hc=>?_) (fun hc=>?_)
   ·
    refine wE<|wD rfl<|QS ?_
    exact wH rfl rfl (congrArg (ah .i64) (by unfold Jm;rw [if_pos (by simpa using hb14),if_pos (wI hc)])) (fun F h9=>trivial)
   ·
    refine QO<|QC<|wF rfl<|wD rfl<|QS ?_
    exact wH rfl rfl (congrArg (ah .i64) (by unfold Jm;rw [if_pos (by simpa using hb14),if_neg (wJ hc)];symm;simpa using hb14)) (fun F h9=>trivial)
  ·
   refine QN rfl rfl rfl<|QN rfl rfl rfl<|QN rfl rfl rfl<|QN rfl rfl rfl<|QN rfl rfl rfl<|QN rfl rfl rfl<|QA (Qh rfl rfl rfl)<|wC<|YQ rfl<|QO<|QC<|wF rfl<|wD rfl<|QS ?_
   exact wH rfl rfl (congrArg (ah .i64) (by unfold Jm;rw [if_neg (by simpa using hb14)])) (fun F h9=>trivial)
theorem xg {w:ak} {F:Gs} {q:Option Addr} {n c:Nat} {l:List (List UInt8×List UInt8)} (hF:Fits F w) (hR:Q6 F q n 2 (l.flatMap xU)) (hl:l.length=n∧∀ s∈l,s.1.length≤1000000∧s.2.length≤1000000) (hn:n≤1000000):QZ Tryz.prog 56 [.slice q n c] w F (.int .i64 (Ql (l.map (fun p=>Jm p.1 p.2)))):=by
 have hln:=hl.1
 refine QT.intro (G:=fun F=>Q6 F q n 2 (l.flatMap xU)) Tryz.func56 rfl (by rfl) rfl rfl hF (fun F' hF'=>hR.le hF')<|wE<|wD rfl<|QG<|wE<|wD rfl<|QX<|Zc (ι:=KF l (fun p=>Jm p.1 p.2)) [(0,_)] (fun i=>[(3,.int .i64 ((i.i:Nat):Int))]) (fun i=>l.length - i.i) (KF.start _ _) wK wK (fun i=>?_)
 simp only [ae,af]
 refine QG<|wF rfl<|wA rfl<|QA (Qj rfl GC)<|QA (QU rfl rfl rfl)<|QE<|QC ?_
 refine QQ rfl (fun hc=>?_) (fun hc=>?_)
 ·
  have hi:i.i<l.length:=by have:=wI hc;omega
  refine QO<|QC<|QG<|QX<|wF rfl<|wA rfl<|QA (JH (n:=n) (i.i) (fun F hR=>hR) rfl rfl GC JU (by omega))<|QA (Xd (n:=n) (vs:=[tx (el l (i.i)).1,tx (el l (i.i)).2]) ((i.i)*2) (fun F hR=>hR) (by omega) rfl JU rfl (fun j v hv=>Jy (f:=xU) (l:=l) Rl (by omega) hv))<|QH rfl (fun w F hF hR=>FT hF (hl.2 _ (JK hi))) (fun _=>wD rfl<|wF rfl<|QA (QU rfl rfl rfl)<|QE<|QC ?_)
  refine QQ rfl (fun hc=>?_) (fun hc=>?_)
  ·
   refine wF rfl<|wD rfl<|QS ?_
   repeat (first | refine JC ?_ | refine Q5 ?_)
   exact wH rfl rfl (congrArg (ah .i64) (i.hit hi (by simpa using hc))) (fun F h9=>trivial)
  ·
   refine QO<|Qk<|QC<|QB<|wA rfl<|QA (Qs rfl rfl (by omega))<|wB rfl<|QE ?_
   exact Qo (i.next hi (by simpa using hc)) (by show l.length - (i.i+1)<l.length - i.i;omega) wL wG (fun F h=>h.1)
 ·
  have hi:l.length≤i.i:=by have:=wJ hc;omega
  refine Qz ?_
  repeat (first | refine Qb ?_ | refine QV (by rfl) ?_)
  refine Qc<|QC<|wE<|wD rfl<|QS ?_
  exact wH rfl rfl (congrArg (ah .i64) (i.stop hi)) (fun F hR=>trivial)
theorem xb {w:ak} {F:Gs} {q:Option Addr} {n c:Nat} {l:List (List UInt8)} (hF:Fits F w) (hR:Q6 F q n 1 (l.map tx)) (hl:l.length=n∧∀ s∈l,s.length≤1000000) (hn:n≤1000000):QZ Tryz.prog 206 [.slice q n c] w F (.int .i64 (Ql (l.map W5))):=by
 have hln:=hl.1
 refine QT.intro (G:=fun F=>Q6 F q n 1 (l.map tx)) Tryz.func206 rfl (by rfl) rfl rfl hF (fun F' hF'=>hR.le hF')<|wE<|wD rfl<|QG<|wE<|wD rfl<|QX<|Zc (ι:=KF l W5) [(0,_)] (fun i=>[(3,.int .i64 ((i.i:Nat):Int))]) (fun i=>l.length - i.i) (KF.start _ _) wK wK (fun i=>?_)
 simp only [ae,af]
 refine QG<|wF rfl<|wA rfl<|QA (Qj rfl E4)<|QA (QU rfl rfl rfl)<|QE<|QC ?_
 refine QQ rfl (fun hc=>?_) (fun hc=>?_)
 ·
  have hi:i.i<l.length:=by have:=wI hc;omega
  have hel:=hl.2 _ (JK hi)
  refine QO<|QC<|QG<|QX<|wF rfl<|wA rfl<|QA (JH (n:=n) (i.i) (fun F hR=>hR) rfl rfl E4 Jo (by omega))<|QA (JQ (n:=n) ((i.i)*1) (fun F hR=>hR) (by omega) rfl Jo (Bp (f:=tx) (l:=l) (by omega)))<|QH rfl (fun w F hF hR=>xa hF (by omega)) (fun _=>QA (QU rfl rfl rfl)<|QE<|QC ?_)
  refine QQ rfl (fun hc=>?_) (fun hc=>?_)
  ·
   refine wE<|wD rfl<|QS ?_
   repeat (first | refine JC ?_ | refine Q5 ?_)
   exact wH rfl rfl (congrArg (ah .i64) (by have h:=i.hit hi (by simpa using hc);rw [h];have h2:W5 (el l i.i)≠0:=(by simpa using hc);unfold W5 at h2 ⊢;split at h2<;>simp_all)) (fun F h9=>trivial)
  ·
   refine QO<|Qk<|QC<|QB<|wA rfl<|QA (Qs rfl rfl (by omega))<|wB rfl<|QE ?_
   exact Qo (i.next hi (by simpa using hc)) (by show l.length - (i.i+1)<l.length - i.i;omega) wL wG (fun F h=>h.1)
 ·
  have hi:l.length≤i.i:=by have:=wJ hc;omega
  refine Qz ?_
  repeat (first | refine Qb ?_ | refine QV (by rfl) ?_)
  refine Qc<|QC<|wE<|wD rfl<|QS ?_
  exact wH rfl rfl (congrArg (ah .i64) (i.stop hi)) (fun F hR=>trivial)
theorem qF (a:List UInt8):(numOf a).length≤a.length:=by unfold numOf;rw [aw];omega
def CU (d:Int) (p:List UInt8×List UInt8):Bool:=Nk p.1 d&&(Nk p.2 d&&!decide (Wr (Jj p.1) (Jj p.2)>0))
theorem Lg {a:List UInt8} {d:Int} (h:Nk a d=true):Jg a=0:=by
 simp only [Nk,aZ,beq_iff_eq] at h;exact h.2.1
theorem cP {w:ak} {F:Gs} {a:List UInt8} {d:Int} (hF:Fits F w) (hl:a.length≤1000000) (hd:0≤d∧d≤1000000):QZ Tryz.prog 126 [tx a,.int .i64 d] w F (.bool (Nk a d)):=by
 have hn:=qF a
 refine QT.intro (G:=fun F=>True) Tryz.func126 rfl (by rfl) rfl rfl hF (fun F' hF'=>trivial)<|wE<|wD rfl<|wF rfl<|QA (XF rfl E3)<|wA rfl<|QA (GF rfl rfl (by omega))<|QA (Qs rfl rfl (by omega))<|QA (QU rfl rfl rfl)<|wA rfl ?_
 refine Qn (t:=11) rfl (fun hb11=>?_) (fun hb11=>?_)
 ·
  refine QL rfl rfl<|wA rfl<|QL rfl rfl<|QH rfl (fun w F hF hT=>TO hF (hl)) (fun _=>QL rfl rfl<|QA (QU rfl rfl rfl)<|QA (Qi rfl rfl rfl)<|wA rfl ?_)
  refine Qn (t:=16) rfl (fun hb16=>?_) (fun hb16=>?_)
  ·
   refine QL rfl rfl<|wA rfl<|QL rfl rfl<|QH rfl (fun w F hF h9=>yJ hF (by omega)) (fun _=>QL rfl rfl<|QH rfl (fun w F hF h9=>yM hF ) (fun _=>QL rfl rfl<|QA (XF rfl E3)<|QL rfl rfl<|wA rfl<|QL rfl rfl<|QA (QU rfl rfl rfl)<|QA (Qi rfl rfl rfl)<|wA rfl ?_))
   refine Qn (t:=24) rfl (fun hb24=>?_) (fun hb24=>?_)
   ·
    refine QL rfl rfl<|wA rfl<|QL rfl rfl<|QH rfl (fun w F hF h9=>yK hF (by omega)) (fun _=>QL rfl rfl<|QA (XF rfl E3)<|QL rfl rfl<|wA rfl<|QL rfl rfl<|QA (QU rfl rfl rfl)<|QA (Qi rfl rfl rfl)<|wD rfl<|QS ?_)
    exact wH rfl rfl ((congrArg ab (by have h1:=wI hb11;simp [Nk,h1];simp at hb16 hb24;simp [hb16,hb24]))) (fun F h9=>trivial)
   ·
    refine QN rfl rfl rfl<|QN rfl rfl rfl<|QN rfl rfl rfl<|QN rfl rfl rfl<|QN rfl rfl rfl<|QA (Qh rfl rfl rfl)<|wD rfl<|QS ?_
    exact wH rfl rfl ((congrArg ab (by have h1:=wI hb11;simp [Nk,h1];simp at hb16 hb24;simp [hb16];intro g;omega))) (fun F h9=>trivial)
  ·
   refine QN rfl rfl rfl<|QN rfl rfl rfl<|QN rfl rfl rfl<|QN rfl rfl rfl<|QN rfl rfl rfl<|QN rfl rfl rfl<|QA (Qh rfl rfl rfl)<|wA rfl<|QN rfl rfl rfl<|QN rfl rfl rfl<|QN rfl rfl rfl<|QN rfl rfl rfl<|QN rfl rfl rfl<|QA (Qh rfl rfl rfl)<|wD rfl<|QS ?_
   exact wH rfl rfl ((congrArg ab (by have h1:=wI hb11;simp at hb16;simp [Nk,h1,hb16]))) (fun F h9=>trivial)
 ·
  refine QN rfl rfl rfl<|QN rfl rfl rfl<|QN rfl rfl rfl<|QA (Qh rfl rfl rfl)<|wA rfl<|QN rfl rfl rfl<|QN rfl rfl rfl<|QN rfl rfl rfl<|QN rfl rfl rfl<|QN rfl rfl rfl<|QN rfl rfl rfl<|QA (Qh rfl rfl rfl)<|wA rfl<|QN rfl rfl rfl<|QN rfl rfl rfl<|QN rfl rfl rfl<|QN rfl rfl rfl<|QN rfl rfl rfl<|QA (Qh rfl rfl rfl)<|wD rfl<|QS ?_
  exact wH rfl rfl ((congrArg ab (by simp [Nk,hb11]))) (fun F hT=>trivial)
section
open Go.RowKit Go.ChangeShapes Go.WideShapes Ig
section
variable {H:Type} {enc:aK×aL→H} {w:ak}
set_option maxRecDepth 100000 in
theorem AB (n:Nat) (cs:List aL) (x:DataW H×List MemPlace) (h:aQ enc Tryz.prog w 0 (fun _=>true) true n 24 cs=some x):∃ y:List UInt8×List UInt8,cs=xU y:=by
 obtain ⟨y0,y1,m,_,hl,h0,h1⟩:=trod_struct2 Tryz.underlying24 h
 have c2:Tryz.prog.cellsOf 24=2:=by kernel_rfl
 have c1:Tryz.prog.cellsOf 22=1:=by kernel_rfl
 rw [c2] at hl
 match cs,hl with
 |[a,b],_ =>
  dsimp only at h0 h1
  rw [c1] at h0 h1
  obtain ⟨lo,rfl⟩:=L9 C4 (v:=a) h0
  obtain ⟨hi,rfl⟩:=L9 C4 (v:=b) h1
  exact⟨(lo,hi),rfl⟩
end
end
theorem dh:([49,47,50]:List UInt8)=JN (ag 1 2):=by
 have e1:aj 1=[49]:=Gg (l:=[49]) (by decide)
 have e2:aj 2=[50]:=Gg (l:=[50]) (by decide)
 have hp:=BF
 have hd:(ag 1 2).den=2:=by have:=hp.2;omega
 unfold JN
 rw [hd,if_neg (by decide),hp.1,e2,J3 (by decide)]
 show _=aj 1++_
 rw [e1];rfl
theorem uG {w:ak} {F:Gs} {x:Rat} (hF:Fits F w) (hx:JL x≤100000):QZ Tryz.prog 93 [tx (JN x),tx [49,47,50]] w F (tx (JN (x*ag 1 2))):=by
 have:=dA (x:=x) (y:=ag 1 2) hF hx (by have:=Pj;omega)
 rw [← dh] at this;exact this
def V3 (i:Nat):Rat:=ag 1 2^i
theorem vj (i:Nat):(V3 i).num≠0:=by
 intro e
 have h0:=Rat.num_eq_zero.1 e
 unfold V3 at h0
 have h1:ag 1 2≠0:=by
  intro h
  have:=BF.1
  rw [h] at this;exact absurd this (by decide)
 induction i with
 |zero=>rw [bM] at h0;exact absurd h0 (by decide)
 |succ n ih =>
  rw [bC] at h0
  rcases Rat.mul_eq_zero.1 h0 with h | h
  ·exact ih (Rat.num_eq_zero.2 h) h
  ·exact h1 h
theorem QA3 {w:ak} {F:Gs} {x:Rat} (hF:Fits F w) (hx:JL x≤100000):QZ Tryz.prog 34 [tx (JN x)] w F (tx (JN (x*ag 1 2))):=by
 refine QT.intro (G:=fun F=>True) Tryz.func34 rfl (by rfl) rfl rfl hF (fun F' hF'=>trivial)<|wE<|wD rfl<|wF rfl<|QH rfl (fun w F hF hT=>uG hF (hx)) (fun _=>wD rfl<|QS ?_)
 exact wH rfl rfl (rfl) (fun F h9=>trivial)
theorem cN {w:ak} {F:Gs} {x y:Rat} (hF:Fits F w) (hx:JL x≤30000) (hy:JL y≤30000):QZ Tryz.prog 99 [tx (JN x),tx (JN y)] w F (tx (JN (Cy x y))):=by
 refine QT.intro (G:=fun F=>True) Tryz.func99 rfl (by rfl) rfl rfl hF (fun F' hF'=>trivial)<|wE<|wD rfl<|QG<|wF rfl<|wA rfl<|QH rfl (fun w F hF hT=>OR hF (hx) (hy)) (fun _=>QA (QU rfl rfl rfl)<|QE<|QC ?_)
 refine QQ rfl (fun hc=>?_) (fun hc=>?_)
 ·
  refine wF rfl<|wD rfl<|QS ?_
  exact wH rfl rfl (by unfold Cy;rw [if_pos (wI hc)]) (fun F h9=>trivial)
 ·
  refine QO<|QC<|wF rfl<|wD rfl<|QS ?_
  exact wH rfl rfl (by unfold Cy;rw [if_neg (wJ hc)]) (fun F h9=>trivial)
theorem cO {w:ak} {F:Gs} {x y:Rat} (hF:Fits F w) (hx:JL x≤30000) (hy:JL y≤30000):QZ Tryz.prog 100 [tx (JN x),tx (JN y)] w F (tx (JN (Cz x y))):=by
 refine QT.intro (G:=fun F=>True) Tryz.func100 rfl (by rfl) rfl rfl hF (fun F' hF'=>trivial)<|wE<|wD rfl<|QG<|wF rfl<|wA rfl<|QH rfl (fun w F hF hT=>OR hF (hx) (hy)) (fun _=>QA (QU rfl rfl rfl)<|QE<|QC ?_)
 refine QQ rfl (fun hc=>?_) (fun hc=>?_)
 ·
  refine wF rfl<|wD rfl<|QS ?_
  exact wH rfl rfl (by unfold Cz;rw [if_pos (wI hc)]) (fun F h9=>trivial)
 ·
  refine QO<|QC<|wF rfl<|wD rfl<|QS ?_
  exact wH rfl rfl (by unfold Cz;rw [if_neg (wJ hc)]) (fun F h9=>trivial)
theorem C9 {w:ak} {F:Gs} {s:List UInt8} (hF:Fits F w):QZ Tryz.prog 101 [tx s] w F (.agg #[tx s,tx s]):=by
 refine QT.intro (G:=fun F=>True) Tryz.func101 rfl (by rfl) rfl rfl hF (fun F' hF'=>trivial)<|wE<|Qg Zy (fun b2=>wC<|wF rfl<|wA rfl<|QA (Q7 rfl Y8 Zy (.cons (vs:=[_]) rfl rfl rfl .h1 (.cons (vs:=[_]) rfl rfl rfl (.skip .h1) .nil)))<|QR (vs:=[_,_]) rfl rfl rfl JU rfl .here .h2 wL<|wC<|QS ?_)
 exact QP (()) rfl (.Jd (c:=[_,_]) rfl JU .here .nil) (rfl) (fun F hT=>trivial)
theorem uv {w:ak} {F:Gs} {a b:Rat×Rat} (hF:Fits F w) (ha:gO 30000 a) (hb:gO 30000 b):QZ Tryz.prog 52 [xJ a,xJ b] w F (xJ (a.1+b.1,a.2+b.2)):=by
 obtain ⟨ha1,ha2⟩:=ha
 obtain ⟨hb1,hb2⟩:=hb
 refine QT.intro (G:=fun F=>True) Tryz.func52 rfl (by rfl) rfl rfl hF (fun F' hF'=>trivial)<|wE<|Q2 rfl (vs:=[_,_]) rfl (fun b2=>Q2 rfl (vs:=[_,_]) rfl (fun b3=>Qg Zy (fun b4=>wC<|QG<|JV (.cons _ (.cons_cons _ (.cons_cons _ .slnil))) mixed (by kernel_rfl)<|QK (QI rfl WK Jo)<|QK (Qm rfl Jo .u1 .h1)<|QK (QI rfl WK Jo)<|QK (Qm rfl Jo .here .h1)<|Qd rfl (fun w F hF hT=>qt hF (by omega) (by omega)) (fun _=>QK (QI rfl Wh Jo)<|QK (Qm rfl Jo .u1 (.skip .h1))<|QK (QI rfl Wh Jo)<|QK (Qm rfl Jo .here (.skip .h1))<|Qd rfl (fun w F hF h9=>qt hF (by omega) (by omega)) (fun _=>QK (Q7 rfl Y8 Zy (.cons (vs:=[_]) rfl rfl rfl .h1 (.cons (vs:=[_]) rfl rfl rfl (.skip .h1) .nil)))<|JE (vs:=[_,_]) rfl rfl rfl JU rfl .here (.cons_cons _ (.cons_cons _ .slnil)) (fun _ h=>h.1.1) .h2 wL<|Q3<|QC<|QS ?_)))))
 exact QP (()) rfl (.Jd (c:=[_,_]) rfl JU .here .nil) (rfl) (fun F h9=>trivial)
theorem dB {w:ak} {F:Gs} {x:Rat} {b:Rat×Rat} (hF:Fits F w) (hx:JL x≤30000) (hb:gO 30000 b):QZ Tryz.prog 102 [tx (JN x),xJ b] w F (.bool (decide (Wr b.1 x≤0)&&decide (Wr x b.2≤0))):=by
 refine QT.intro (G:=fun F=>True) Tryz.func102 rfl (by rfl) rfl rfl hF (fun F' hF'=>trivial)<|wE<|Q2 rfl (vs:=[_,_]) rfl (fun b3=>wD rfl<|wE<|QA (QI rfl WK Jo)<|QA (Qm rfl Jo .here .h1)<|wA rfl<|QH rfl (fun w F hF hT=>OR hF (hb.1) (hx)) (fun _=>QA (QU rfl rfl rfl)<|wA rfl ?_))
 refine Qn (t:=10) rfl (fun hb10=>?_) (fun hb10=>?_)
 ·
  refine QL rfl rfl<|wA rfl<|QL rfl rfl<|QA (QI rfl Wh Jo)<|QL rfl rfl<|QA (Qm rfl Jo .here (.skip .h1))<|QL rfl rfl<|QH rfl (fun w F hF h9=>OR hF (hx) (hb.2)) (fun _=>QL rfl rfl<|QA (QU rfl rfl rfl)<|QA (Qi rfl rfl rfl)<|wD rfl<|QS ?_)
  exact wH rfl rfl (congrArg ab (by rw [hb10];simp)) (fun F h9=>trivial)
 ·
  refine QN rfl rfl rfl<|QN rfl rfl rfl<|QN rfl rfl rfl<|QN rfl rfl rfl<|QN rfl rfl rfl<|QA (Qh rfl rfl rfl)<|wD rfl<|QS ?_
  exact wH rfl rfl (congrArg ab (by rw [hb10];simp)) (fun F h9=>trivial)
def inQ (x:Rat) (b:Rat×Rat):Bool:=decide (Wr b.1 x≤0)&&decide (Wr x b.2≤0)
theorem va {w:ak} {F:Gs} {a b:Rat×Rat} (hF:Fits F w) (ha:gO 30000 a) (hb:gO 30000 b):QZ Tryz.prog 51 [xJ a,xJ b] w F (.bool (inQ a.1 b&&inQ a.2 b)):=by
 obtain ⟨ha1,ha2⟩:=ha
 obtain ⟨hb1,hb2⟩:=hb
 refine QT.intro (G:=fun F=>True) Tryz.func51 rfl (by rfl) rfl rfl hF (fun F' hF'=>trivial)<|wE<|Q2 rfl (vs:=[_,_]) rfl (fun b2=>Q2 rfl (vs:=[_,_]) rfl (fun b3=>wD rfl<|wE<|QA (QI rfl WK Jo)<|QA (Qm rfl Jo .u1 .h1)<|QA (QJ (vs:=[_,_]) rfl JU .here .h2 rfl)<|QH rfl (fun w F hF hT=>dB hF (ha1) (⟨hb1,hb2⟩)) (fun _=>wA rfl ?_)))
 refine Qn (t:=9) rfl (fun hb9=>?_) (fun hb9=>?_)
 ·
  refine QL rfl rfl<|QA (QI rfl Wh Jo)<|QL rfl rfl<|QA (Qm rfl Jo .u1 (.skip .h1))<|QL rfl rfl<|QA (QJ (vs:=[_,_]) rfl JU .here .h2 rfl)<|QL rfl rfl<|QH rfl (fun w F hF h9=>dB hF (ha2) (⟨hb1,hb2⟩)) (fun _=>QA (Qi rfl rfl rfl)<|wD rfl<|QS ?_)
  exact wH rfl rfl (congrArg ab (by unfold inQ;rw [hb9];simp)) (fun F h9=>trivial)
 ·
  refine QN rfl rfl rfl<|QN rfl rfl rfl<|QN rfl rfl rfl<|QN rfl rfl rfl<|QA (Qh rfl rfl rfl)<|wD rfl<|QS ?_
  exact wH rfl rfl (congrArg ab (by unfold inQ;rw [hb9];simp)) (fun F h9=>trivial)
def Yf (x:Rat) (i:Nat):Rat:=((x / V3 i).floor:Rat)*V3 i
theorem qk {w:ak} {F:Gs} {lo hi:List UInt8} (hF:Fits F w) (hl:lo.length≤1000000∧hi.length≤1000000):QZ Tryz.prog 125 [.agg #[tx lo,tx hi]] w F (.int .i64 (Ql [W5 lo,W5 hi])):=by
 refine QT.intro (G:=fun F=>True) Tryz.func125 rfl (by rfl) rfl rfl hF (fun F' hF'=>trivial)<|wE<|Q2 rfl (vs:=[_,_]) rfl (fun b1=>wD rfl<|wE<|QA (QI rfl WK Jo)<|QA (Qm rfl Jo .here .h1)<|QA (QI rfl Wh Jo)<|QA (Qm rfl Jo .here (.skip .h1))<|QW rfl (Q8 E4) Jo vW rfl rfl (fun b7=>QH rfl (fun w F hF ⟨hT,hs7⟩=>xb hF (n:=2) (l:=[lo,hi]) (Q6.of (n:=2) (sz:=1) hs7 rfl) (⟨rfl,fun s hs=>by simp at hs;rcases hs with rfl | rfl;exact hl.1;exact hl.2⟩) (by omega)) (fun _=>wD rfl<|QS ?_)))
 exact wH rfl rfl (rfl) (fun F h9=>trivial)
section
open Go Go.RowKit
section
variable [Dr] [df:Df]
section
variable {P:ei} {Q:Exit→Act→ak→Prop} {N:Nat} {m:Sl} {E E0:Env} {l:List Oper} {r r':List Nat} {w0:ak} {F0:Gs} {bs:List (Nat×Obj)} {G:Gs→Prop}
theorem u9 (i j k:Nat) {o u x:Oper} {r2 r3:List Nat} (hp:PA l r=none) (hl:r.filter (W3 l r)=[i,j,k]) (ho:l[i]?=some o) (hu:l[j]?=some u) (hx:l[k]?=some x) (hq:Jt o.op=false) (hq2:Jt u.op=false) (hq3:Jt x.op=false) (he:r.erase i=r') (he2:r.erase j=r2) (he3:r.erase k=r3)
  (h:JD P l.toArray (Xl (Hb P l Q E0 r')) E0 [o] N m E) (h2:JD P l.toArray (Xl (Hb P l Q E0 r2)) E0 [u] N m E) (h3:JD P l.toArray (Xl (Hb P l Q E0 r3)) E0 [x] N m E) (hr:r≠[]:=by decide):JT P l Q E0 r N m E :=
 gJ hp (fun y hk=>by
  rw [hl] at hk
  simp only [cb,bP,or_false] at hk
  rcases hk with rfl | rfl | rfl
  ·exact⟨o,ho,hq,he ▸ h⟩
  ·exact⟨u,hu,hq2,he2 ▸ h2⟩
  ·exact⟨x,hx,hq3,he3 ▸ h3⟩) hr
end
end
end
end Go.Proofs.YtknegjaeoffnbaaGreatDoor
namespace Ig
theorem eqv_norm (l:List Tm):KB (Jp l) l:=fun k=>KM l k
theorem EJ {l m:List Tm} (h:KB l m):Jp l=Jp m:=Dm (ZF l) (ZF m) fun k=>by rw [KM,KM,h]
theorem eqv_zero (t:List Int) (p:List Tm):KB ((0,t)::p) p:=fun k=>by simp [Jh,bg]
theorem eqv_join (x y:Rat) (k:List Int) (p:List Tm):KB ((x,k)::(y,k)::p) ((x+y,k)::p):=fun j=>by
 simp only [Jh]
 by_cases h:k=j
 ·simp only [h,if_true];rw [bw]
 ·simp only [h,if_false,bg]
theorem gH (a b:List Int):J4 a b=J4 b a:=by
 unfold J4;rw [List.zipWith_comm];congr 1;funext x y;exact Int.add_comm _ _
theorem Ck:∀ a b c:List Int,J4 (J4 a b) c=J4 a (J4 b c)
 |[],_,_=>by simp [J4]
 |_::_,[],_=>by simp [J4]
 |_::_,_::_,[]=>by simp [J4]
 |x::a,y::b,z::c=>by
  have:=Ck a b c
  simp only [J4,List.zipWith_cons_cons] at this ⊢
  rw [this,Int.add_assoc]
theorem KB.uw {n:Nat} {p q q':List Tm} (hp:Zm n p) (hq:Zm n q) (hq':Zm n q') (h:KB q q'):KB (JM p q) (JM p q'):=by
 induction p with
 |nil=>exact KB.refl _
 |cons s p ih =>
  rw [X2,X2]
  refine KB.append (fun k=>?_) (ih hp.tail)
  rw [EX (hp s (by simp)) hq,EX (hp s (by simp)) hq',h]
theorem Rz (p q:List Tm):(JM p q).Perm (JM q p):=by
 induction p with
 |nil =>
  have:JM q []=[]:=by simp [JM,Jw]
  rw [this];exact eI _
 |cons s p ih =>
  rw [X2]
  refine(bX _ ih).trans ?_
  clear ih
  induction q with
  |nil=>exact eI _
  |cons t q ih =>
   rw [X2,X2]
   show((s.1*t.1,J4 s.2 t.2)::(Jw s q++(Jw t p++JM q p))).Perm ((t.1*s.1,J4 t.2 s.2)::(Jw t p++JM q (s::p)))
   rw [ek t.1,gH t.2]
   refine List.Perm.cons _ ?_
   refine List.Perm.trans ?_ (bX _ ih)
   rw [← aX,← aX]
   exact List.Perm.append_right _ er
theorem KB.prod {n:Nat} {p p' q q':List Tm} (hp:Zm n p) (hp':Zm n p') (hq:Zm n q) (hq':Zm n q') (h:KB p p') (k:KB q q'):KB (JM p q) (JM p' q') :=
 (KB.uw hp hq hq' k).trans ((KB.perm (Rz p q')).trans ((KB.uw hq' hp hp' h).trans (KB.perm (Rz q' p'))))
theorem Cu (s t:Tm) (q:List Tm):Jw s (Jw t q)=Jw (s.1*t.1,J4 s.2 t.2) q:=by
 simp only [Jw,ee]
 congr 1;funext u
 simp [aE,Ck]
theorem qW (s:Tm) (p q:List Tm):Jw s (JM p q)=JM (Jw s p) q:=by
 induction p with
 |nil=>rfl
 |cons t p ih =>
  rw [X2,Wv,ih,Cu]
  show _=JM ((s.1*t.1,J4 s.2 t.2)::Jw s p) q
  rw [X2]
theorem xo (p q r:List Tm):JM (JM p q) r=JM p (JM q r):=by
 induction p with
 |nil=>rfl
 |cons s p ih=>rw [X2,Wa,ih,X2,qW]
end Ig
namespace Go.Proofs.YtknegjaeoffnbaaGreatDoor
section
open Go.RowKit Go.ChangeShapes Go.WideShapes Ig
section
variable {H:Type} {enc:aK×aL→H} {w:ak}
theorem vi (n:Nat) (cs:List aL) (x:DataW H×List MemPlace) (h:aQ enc Tryz.prog w 0 (fun _=>true) true n 3 cs=some x):∃ y:Int,cs=[Qy y]∧True:=by
 obtain ⟨z,rfl,_⟩:=eY uq h
 exact⟨z,rfl,trivial⟩
theorem vt (l:List Int):(l.flatMap fun y=>[Qy y])=l.map Qy:=by
 induction l with
 |nil=>rfl
 |cons a l ih=>rw [bJ,ih];rfl
end
end
section
open Go.RowKit Go.ChangeShapes Go.WideShapes Ig
def um (t:V5):Prop:=t.f.length≤9223372036854775807∧t.k.length≤9223372036854775807
section
variable {H:Type} {enc:aK×aL→H} {w:ak}
theorem uB {n:Nat} {t:aK} {v:aL} {x:DataW H×List MemPlace} (ht:Tryz.prog.underlying t=some .string) (h:aQ enc Tryz.prog w 0 (fun _=>true) true n t [v]=some x):∃ l,v=tx l∧l.length≤9223372036854775807:=by
 obtain ⟨s,e,_,hs⟩:=DataW.trod_string ht h
 obtain ⟨rfl⟩:=List.cons.inj e
 exact⟨s.data.toList,by simp [tx],by unfold maxLen at hs;simpa using hs⟩
set_option maxRecDepth 100000 in
theorem xQ (n:Nat) (cs:List aL) (x:DataW H×List MemPlace) (h:aQ enc Tryz.prog w 0 (fun _=>true) true n 122 cs=some x):∃ y:V5,cs=Kl y∧JR (Wp w) y.r y.k∧um y:=by
 obtain ⟨y0,y1,m,_,hl,h0,h1⟩:=trod_struct2 Tryz.underlying122 h
 have c2:Tryz.prog.cellsOf 122=2:=by kernel_rfl
 have c1:Tryz.prog.cellsOf 22=1:=by kernel_rfl
 have c3:Tryz.prog.cellsOf 120=1:=by kernel_rfl
 rw [c2] at hl
 match cs,hl with
 |[a,b],_ =>
  dsimp only at h0 h1
  rw [c1] at h0
  rw [c3] at h1
  obtain ⟨f,rfl,hf⟩:=uB C4 (v:=a) h0
  obtain ⟨q,n,cap,l,e,hR,hn,hb,_,hc⟩:=qA (cs:=[b]) (f:=fun y=>[Qy y]) (Q:=fun _=>True) Tryz.underlying120 (show Tryz.prog.cellsOf 3=1 by kernel_rfl) (by decide) (fun _=>rfl) vi h1
  obtain ⟨rfl⟩:=(bt _ _ _ _ ▸ e:_∧_).1
  rw [vt] at hR
  exact⟨⟨f,⟨q,n,cap⟩,l⟩,rfl,⟨hR,hn,hc⟩,hf,by rw [hn];exact hb⟩
set_option maxRecDepth 100000 in
theorem yU {m:Nat} {v:aL} {x:DataW H×List MemPlace} (h:aQ enc Tryz.prog w 0 (fun _=>true) true m 52 [v]=some x) :
  ∃ a:KG,v=a.1.v∧YR (Wp w) a.1 a.2 (J2 a.2)∧(∀ t∈a.2,um t)∧a.1.n≤9223372036854775807:=by
 obtain ⟨q,n,cap,l,h1,h2,h3,h4,h5,h6⟩:=qA (cs:=[v]) (f:=Kl) (Q:=fun y=>JR (Wp w) y.r y.k∧um y) Tryz.underlying52 (show Tryz.prog.cellsOf 122=2 by kernel_rfl) (by decide) (fun _=>rfl) xQ h
 exact⟨(⟨q,n,cap⟩,l),(bt _ _ _ _ ▸ h1:_∧_).1,⟨h2,fun t ht=>(h5 t ht).1,rfl,h6,h3⟩,fun t ht=>(h5 t ht).2,h4⟩
theorem LX {t e:aK} {n b:Nat} {v:aL} (ht:Tryz.prog.underlying t=some (.array n e)) (h:bz Tryz.prog w .any b t v):∃ cs,v = .agg cs∧cs.size=Tryz.prog.cellsOf t:=by
 simp only [bz,ht] at h
 obtain ⟨cs,h1,h2,_⟩:=h
 exact⟨cs,h1,h2⟩
end
end
section
open Go.RowKit Go.ChangeShapes Go.WideShapes Ig
section
variable {H:Type} {enc:aK×aL→H} {w:ak}
set_option maxRecDepth 100000 in
theorem open_poly {b:Nat} {v:aL} {d:DataW H} {p:List MemPlace} (hv:bz Tryz.prog w .any b 52 v) (h:eK enc Tryz.prog w 0 (fun _=>true) true 52 v d p) :
  ∃ a:KG,v=a.1.v∧YR (Wp w) a.1 a.2 (J2 a.2)∧(∀ t∈a.2,um t)∧a.1.n≤9223372036854775807:=by
 obtain ⟨a,len,cap,rfl⟩:=okWide_slice Tryz.underlying52 hv
 obtain ⟨fuel,hh⟩:=h
 exact yU (m:=fuel) (v:=.slice a len cap) hh
theorem arr6 {cs:Array aL} (h:cs.size=6):∃ a b c d e f,cs=#[a,b,c,d,e,f]:=by
 obtain ⟨l⟩:=cs
 match l,h with
 |[a,b,c,d,e,f],_=>exact⟨a,b,c,d,e,f,rfl⟩
theorem arr_at {t e:aK} {n fuel i:Nat} {cs:List aL} {x:DataW H×List MemPlace} (ht:Tryz.prog.underlying t=some (.array n e)) (h:aQ enc Tryz.prog w 0 (fun _=>true) true fuel t cs=some x) (hi:i<n):∃ m y,aQ enc Tryz.prog w 0 (fun _=>true) true m e ((cs.drop (i*Tryz.prog.cellsOf e)).take (Tryz.prog.cellsOf e))=some y:=by
 obtain ⟨xs,m,_,_,_,hl,hx⟩:=DataW.trod_array ht h
 have h1:=hx i hi
 rw [aH (by omega)] at h1
 exact⟨m,_,h1⟩
set_option maxRecDepth 100000 in
theorem open_s3 {b:Nat} {v:aL} {d:DataW H} {p:List MemPlace} (hv:bz Tryz.prog w .any b 113 v) (h:eK enc Tryz.prog w 0 (fun _=>true) true 113 v d p):∃ l0 h0 l1 h1 l2 h2,v = .agg #[tx l0,tx h0,tx l1,tx h1,tx l2,tx h2]:=by
 obtain ⟨cs,rfl,hsz⟩:=LX Tryz.underlying113 hv
 obtain ⟨a,b',c,d',e,f,rfl⟩:=arr6 (hsz.trans (by kernel_rfl))
 obtain ⟨fuel,hf⟩:=h
 have c2:Tryz.prog.cellsOf 24=2:=by kernel_rfl
 obtain ⟨m0,y0,e0⟩:=arr_at (i:=0) Tryz.underlying113 hf (by decide)
 obtain ⟨m1,y1,e1⟩:=arr_at (i:=1) Tryz.underlying113 hf (by decide)
 obtain ⟨m2,y2,e2⟩:=arr_at (i:=2) Tryz.underlying113 hf (by decide)
 rw [c2] at e0 e1 e2
 obtain ⟨s0,q0⟩:=AB _ _ _ e0
 obtain ⟨s1,q1⟩:=AB _ _ _ e1
 obtain ⟨s2,q2⟩:=AB _ _ _ e2
 have q0:[a,b']=[tx s0.1,tx s0.2]:=q0
 have q1:[c,d']=[tx s1.1,tx s1.2]:=q1
 have q2:[e,f]=[tx s2.1,tx s2.2]:=q2
 simp only [bt,and_true] at q0 q1 q2
 obtain ⟨rfl,rfl⟩:=q0
 obtain ⟨rfl,rfl⟩:=q1
 obtain ⟨rfl,rfl⟩:=q2
 exact⟨_,_,_,_,_,_,rfl⟩
theorem u8_cell {m:Nat} {v:aL} {x:DataW H×List MemPlace} (h:aQ enc Tryz.prog w 0 (fun _=>true) true m 5 [v]=some x):∃ k:Nat,v = .int .u8 (k:Int)∧k<256:=by
 obtain ⟨z,e,_,hw⟩:=eY Tryz.underlying5 h
 obtain ⟨rfl⟩:=(bt _ _ _ _ ▸ e:_∧_).1
 have hn:0≤z∧z≤255:=by simpa [Lit.wf,IntKind.min,IntKind.max,IntKind.signed,IntKind.bits] using hw
 exact⟨z.toNat,by rw [bf hn.1],by omega⟩
set_option maxRecDepth 100000 in
theorem open_u6 {b:Nat} {v:aL} {d:DataW H} {p:List MemPlace} (hv:bz Tryz.prog w .any b 114 v) (h:eK enc Tryz.prog w 0 (fun _=>true) true 114 v d p) :
  ∃ k0 k1 k2 k3 k4 k5:Nat,v = .agg #[.int .u8 (k0:Int),.int .u8 (k1:Int),.int .u8 (k2:Int),.int .u8 (k3:Int),.int .u8 (k4:Int),.int .u8 (k5:Int)]∧∀ k∈[k0,k1,k2,k3,k4,k5],k<256:=by
 obtain ⟨cs,rfl,hsz⟩:=LX Tryz.underlying114 hv
 obtain ⟨a,b',c,d',e,f,rfl⟩:=arr6 (hsz.trans (by kernel_rfl))
 obtain ⟨fuel,hf⟩:=h
 have c1:Tryz.prog.cellsOf 5=1:=by kernel_rfl
 obtain ⟨m0,y0,e0⟩:=arr_at (i:=0) Tryz.underlying114 hf (by decide)
 obtain ⟨m1,y1,e1⟩:=arr_at (i:=1) Tryz.underlying114 hf (by decide)
 obtain ⟨m2,y2,e2⟩:=arr_at (i:=2) Tryz.underlying114 hf (by decide)
 obtain ⟨m3,y3,e3⟩:=arr_at (i:=3) Tryz.underlying114 hf (by decide)
 obtain ⟨m4,y4,e4⟩:=arr_at (i:=4) Tryz.underlying114 hf (by decide)
 obtain ⟨m5,y5,e5⟩:=arr_at (i:=5) Tryz.underlying114 hf (by decide)
 rw [c1] at e0 e1 e2 e3 e4 e5
 obtain ⟨k0,rfl,g0⟩:=u8_cell (v:=a) e0
 obtain ⟨k1,rfl,g1⟩:=u8_cell (v:=b') e1
 obtain ⟨k2,rfl,g2⟩:=u8_cell (v:=c) e2
 obtain ⟨k3,rfl,g3⟩:=u8_cell (v:=d') e3
 obtain ⟨k4,rfl,g4⟩:=u8_cell (v:=e) e4
 obtain ⟨k5,rfl,g5⟩:=u8_cell (v:=f) e5
 refine⟨k0,k1,k2,k3,k4,k5,rfl,fun k hk=>?_⟩
 simp only [cb,bP,or_false] at hk
 rcases hk with rfl | rfl | rfl | rfl | rfl | rfl<;>assumption
end
end
open Go.RowKit Ig
theorem uJ {a z v r:List aL} (h:z.length=v.length):Yt (a++(z++r)) a.length v (a++(v++r)):=by
 have:=Yt.mk' a.length (a++(z++r)) v (by simp only [aN];omega)
 rw [List.take_left,eS,bB (by omega),af,Nat.add_sub_cancel_left,eS,bB (by omega),af,← h,fm,bF,aX] at this
 exact this
theorem zP (xs:List (Fr×Rat)):(Fq xs).length=xs.length*4:=by
 unfold Fq
 induction xs with
 |nil=>rfl
 |cons x xs ih=>rw [bJ,aN,ih,aF,bn];simp [Up];omega
def zFr:List aL:=[.int .i64 0,.slice none 0 0,.int .i64 0,.slice none 0 0]
theorem uK {xs:List (Fr×Rat)} {i n:Nat} (h:xs.length=i) (hi:i<n) (x:Fr) (r:Rat):Yt (Fq xs++X9 zFr (n - i)) (0+i*4) (Up x) (Fq (xs++[(x,r)])++X9 zFr (n - (i+1))):=by
 have e1:n - i=(n - (i+1))+1:=by omega
 have e2:Fq (xs++[(x,r)])=Fq xs++Up x:=by unfold Fq;rw [eG];simp
 rw [e1,X9,e2,aX,show 0+i*4=(Fq xs).length by rw [zP,h];omega]
 exact uJ rfl
theorem vo {w:ak} {F:Gs} {q:Option Addr} {n cap:Nat} {ss:List (List UInt8)} (hF:Fits F w) (hGl:JB F) (hR:Q6 F q n 1 (ss.map tx)) (hn:ss.length=n) (hl:n≤1000000) (hc:∀ s∈ss,Jg s=0∧s.length≤1000000) :
  QT Tryz.prog 187 [.slice q n cap] w F (fun(c:Sr×List (Fr×Rat))=>c.1.v) (fun c F=>Q6 F c.1.q c.1.n 4 (Fq c.2)∧Cr F c.2∧c.2.map (·.2)=ss.map Jj∧c.2.length=c.1.n∧c.1.n=n):=by
 refine QT.intro (G:=fun F=>JB F∧Q6 F q n 1 (ss.map tx)) Tryz.func187 rfl (by rfl) rfl rfl hF (fun F' hF'=>⟨hGl.le hF',hR.le hF'⟩)<|wE<|wD rfl<|wF rfl<|QA (Qj rfl E4)<|PC (n:=n) (bytes:=64) rfl rfl W2 Qe Xs rfl cx (by omega) (by omega) (fun bk=>DM (E':=⟨w,F,[(bk,.cells (Fq []++X9 zFr (n - 0)).toArray 130 (0,0))],fun F=>JB F∧Q6 F q n 1 (ss.map tx)⟩) (fun _ h=>h)<|wD rfl<|QG<|wF rfl<|QA (Qj rfl E4)<|wA rfl<|wC<|QX<|Jz (ι:=gL ss) [(3,_),(9,_),(10,_)] (fun i=>[(11,.int .i64 ((i.i:Nat):Int))]) (fun i=>[(bk,.cells (Fq i.xs++X9 zFr (n - i.i)).toArray 130 (0,0))]) (fun i F=>Cr F i.xs) (fun i=>ss.length - i.i) (⟨0,[],aA _,rfl⟩) wM wK wG (fun _ _ _ h=>by cases h) (fun i=>?_))
 simp only [ae,af]
 have hi:=i.le
 refine wE<|QA (QU rfl rfl rfl)<|wC<|QG ?_
 refine QQ rfl (fun hc2=>?_) (fun hc2=>?_)
 ·
  have hlt:i.i<ss.length:=by have:=wI hc2;omega
  have hcs:=hc _ (JK hlt)
  have hcl:=hcs.2
  refine QO<|QC<|QG<|QX<|wF rfl<|QA (JH (n:=n) (i.i) (fun F h9=>h9.1.2) rfl rfl E4 Jo (by omega))<|QA (JQ (n:=n) ((i.i)*1) (fun F h9=>h9.1.2) (by omega) rfl Jo (Bp (f:=tx) (l:=ss) (by omega)))<|wB rfl<|wD rfl<|QB<|wA rfl<|wA rfl<|wA rfl<|QH rfl (fun w F hF h9=>Hg hF h9.1.1 ((X6 hcs.1).1) (by omega)) (fun x19=>QA (Qw (i:=i.i) rfl rfl W2 Qe (by omega))<|QR (vs:=Up x19) rfl rfl rfl Qe rfl .here (uK i.len (by omega) x19 (Jj (el ss i.i))) wN<|QE<|Qk<|QC<|QB<|QA (Qs rfl rfl (by omega)) ?_)
  refine wA rfl<|QE ?_
  exact Qo (⟨i.i+1,i.xs++[(x19,Jj (el ss i.i))],hlt,by rw [X7 hlt,bU,bU,i.hx];rfl⟩) (by show ss.length - (i.i+1)<ss.length - i.i;omega) wN wG (fun F ⟨⟨hB,hX⟩,Sw⟩=>⟨hB,fun p hp=>by
   rcases List.mem_append.1 hp with hp | hp
   ·exact hX p hp
   ·rw [List.mem_singleton.1 hp];exact Sw⟩)
 ·
  have hge:i.i=ss.length:=by have:=wJ hc2;omega
  refine Qz ?_
  repeat (first | refine Qb ?_ | refine QV (by rfl) ?_)
  refine Qc<|QC<|QG<|QB ?_
  have hxl:=i.len
  have hz:X9 zFr (n - i.i)=[]:=by rw [show n - i.i=0 from by omega];rfl
  rw [hz,eW]
  refine Wz (b:=bk) .here<|wA rfl<|wD rfl<|QS ?_
  exact QP ((⟨some ⟨bk,0,none⟩,n,n⟩,i.xs)) rfl (.tmp rfl .nil) (rfl) (fun F h9=>⟨Q6.of h9.2 ((zP _).trans (by rw [hxl,hge,hn])),h9.1.2,by rw [i.hx,hge,ar],hxl.trans (hge.trans hn),rfl⟩)
theorem Vk (c:Rat) (xs:List Rat) (ks:List Int) (i:Nat):W1 c xs ks (i+1)=W1 c xs ks i*(el xs i)^(Qa ks i).toNat:=by
 unfold W1;rw [List.range_succ,bI];rfl
def Zp (xs:List Rat) (l:List Tm):Rat:=l.foldl (fun a t=>a+W1 t.1 xs t.2 t.2.length) 0
theorem kB {ts:List XU} {xs:List Rat} {i:Nat} (h:i<ts.length):Zp xs (JG (ts.take (i+1)))=Zp xs (JG (ts.take i))+W1 (el ts i).t.1 xs (el ts i).t.2 (el ts i).t.2.length:=by
 rw [Xj h];unfold Zp;rw [bI];rfl
theorem vO {xs:List (Fr×Rat)} {j:Nat} (h:j<xs.length):el (xs.map (·.2)) j=(el xs j).2:=by rw [X5 (by simpa using h),X5 h];simp
theorem uM {w:ak} {F:Gs} {q q2:Option Addr} {n cap n2 cap2:Nat} {ts:List XU} {xs:List (Fr×Rat)} (hF:Fits F w) (hP:Jr F ⟨q,n,cap⟩ ts (JG ts)) (hX:Q6 F q2 n2 4 (xs.flatMap fun p=>Up p.1)) (hXs:Cr F xs) (hx:xs.length=n2) (hw:∀ t∈ts,t.t.2.length=n2∧PW t.t.2) (hl:ts.length≤1000000)
  (hb1:∀ t∈ts,∀ i,i≤n2→JL (W1 t.t.1 (xs.map (·.2)) t.t.2 i)≤50000000) (hb2:∀ t∈ts,∀ i,i<n2→(Qa t.t.2 i).toNat*JL (el xs i).2≤40000000) (hb3:∀ i,i≤ts.length→JL (Zp (xs.map (·.2)) (JG (ts.take i)))≤50000000) :
  ZM Tryz.prog 186 [.slice q n cap,.slice q2 n2 cap2] w F (Zp (xs.map (·.2)) (JG ts)):=by
 have hln:ts.length=n:=hP.2.2.2.2
 refine QT.intro (G:=fun F=>Jr F ⟨q,n,cap⟩ ts (JG ts)∧Q6 F q2 n2 4 (xs.flatMap fun p=>Up p.1)∧Cr F xs) Tryz.func186 rfl (by rfl) rfl rfl hF (fun F' hF'=>⟨hP.le hF',hX.le hF',hXs.le hF'⟩)<|wE<|Qg Xs (fun b4=>wC<|wE<|QH rfl (fun w F hF h9=>po hF (by omega) (by omega)) (fun x11=>Qg Xs (fun b5=>QR (vs:=[_,_,_,_]) rfl rfl rfl Qe rfl .here .h4 wN<|wC<|QG<|wF rfl<|QA (Qj rfl J6)<|wA rfl<|wC<|QX<|Jz (ι:=EvO ts.length) [(1,_),(4,_),(5,_),(12,_),(13,_)] (fun i=>[(14,.int .i64 ((i.i:Nat):Int))]) (fun i=>[(b5,.cells (Up i.x).toArray 130 (0,0)),(b4,.cells [.int .i64 0,.slice none 0 0,.int .i64 0,.slice none 0 0].toArray 130 (0,0))]) (fun i F=>JY F i.x (Zp (xs.map (·.2)) (JG (ts.take i.i)))) (fun i=>ts.length - i.i) (⟨0,x11,aA _⟩) wO wK wG (fun _ h=>h.2) (fun i=>?_))))
 simp only [ae,af]
 have hi:=i.le
 have hs3:=hb3 i.i hi
 refine wE<|QA (QU rfl rfl rfl)<|wC<|QG ?_
 refine QQ rfl (fun hc=>?_) (fun hc=>?_)
 ·
  have hlt:i.i<ts.length:=by have:=wI hc;omega
  have htm:=JK hlt
  have hw1:=(hw _ htm).1
  have hpw:=(hw _ htm).2
  have hl1000:=hpw.2
  have hrl:=(hP.2.1 _ htm).2.2.1
  refine QO<|QC<|QG<|QX<|wE<|QA (JH (n:=n) (i.i) (fun F h9=>(h9.1.1.1).1) rfl rfl J6 Je (by omega))<|QA (Xd (n:=n) (vs:=[.int .i64 (el ts (i.i)).x.n.s,.slice (el ts (i.i)).x.n.q (el ts (i.i)).x.n.n (el ts (i.i)).x.n.cap,.int .i64 (el ts (i.i)).x.d.s,.slice (el ts (i.i)).x.d.q (el ts (i.i)).x.d.n (el ts (i.i)).x.d.cap,.slice (el ts (i.i)).r.q (el ts (i.i)).r.n (el ts (i.i)).r.cap]) ((i.i)*5) (fun F h9=>(h9.1.1.1).1) (by omega) rfl Je rfl (fun j v hv=>Jy (f:=Ym) (l:=ts) YP (by omega) hv))<|Qg Zl (fun b7=>QR (vs:=[_,_,_,_,_]) rfl rfl rfl Je rfl .here .h5 wO<|wC<|wE<|QA (QI rfl Z0 Qe)<|QA (QJ (vs:=[_,_,_,_]) rfl Qe .here .h4 rfl)<|Qg Xs (fun b8=>QR (vs:=[_,_,_,_]) rfl rfl rfl Qe rfl .here .h4 wN<|wC<|QG<|wE<|QA (QI rfl X8 Qv)<|QA (Qm rfl Qv .u1 (.skip (.skip (.skip (.skip .h1))))) ?_))
  refine QA (Qj rfl Qf)<|wA rfl<|wC<|QX<|Jz (ι:=EvI (el ts i.i).t.2.length) [(1,_),(4,_),(5,_),(8,_),(12,_),(13,_),(14,_),(21,_),(22,_)] (fun i2=>[(23,.int .i64 ((i2.j:Nat):Int))]) (fun i2=>[(b8,.cells (Up i2.y).toArray 130 (0,0)),(b7,.cells (Ym (el ts i.i)).toArray 165 (0,0)),(b5,.cells (Up i.x).toArray 130 (0,0)),(b4,.cells [.int .i64 0,.slice none 0 0,.int .i64 0,.slice none 0 0].toArray 130 (0,0))]) (fun i2 F=>JY F i2.y (W1 (el ts i.i).t.1 (xs.map (·.2)) (el ts i.i).t.2 i2.j)) (fun i2=>(el ts i.i).t.2.length - i2.j) (⟨0,(el ts i.i).x,aA _⟩) wS wK wG (fun _ h=>(h.1.1.1.2.1 _ htm).1) (fun i2=>?_)
  simp only [ae,af]
  have hj:=i2.le
  have hs1:=hb1 _ htm i2.j (by omega)
  refine wE<|QA (QU rfl rfl rfl)<|wC<|QG ?_
  refine QQ rfl (fun hc=>?_) (fun hc=>?_)
  ·
   have hlt2:i2.j<(el ts i.i).t.2.length:=by have:=wI hc;omega
   have hlx:i2.j<xs.length:=by omega
   have hxm:=JK hlx
   have hk:=hpw.el hlt2
   have hs2:=hb2 _ htm i2.j (by omega)
   refine QO<|QC<|QG<|QX<|wF rfl<|QA (JH (n:=(el ts i.i).r.n) (i2.j) (fun F h9=>((h9.1.1.1.1.2.1 _ htm).2).1) rfl rfl Qf Qp (by omega))<|QA (JQ (n:=(el ts i.i).r.n) ((i2.j)*1) (fun F h9=>((h9.1.1.1.1.2.1 _ htm).2).1) (by omega) rfl Qp (JJ (o:=(el ts i.i).t.2) (by omega)))<|wB rfl<|wD rfl<|Xr 8 wG mixed (by kernel_rfl) (by kernel_rfl) ?_
   simp only [eE,e8,eH,bF]
   refine QK (QJ (vs:=[_,_,_,_]) rfl Qe .here .h4 rfl)<|QK (QD rfl)<|QK (QD rfl)<|QK (JH (n:=n2) (i2.j) (fun F h9=>h9.1.1.1.2.1) rfl rfl W2 Qe (by omega))<|QK (Xd (n:=n2) (vs:=[.int .i64 (el xs (i2.j)).1.n.s,.slice (el xs (i2.j)).1.n.q (el xs (i2.j)).1.n.n (el xs (i2.j)).1.n.cap,.int .i64 (el xs (i2.j)).1.d.s,.slice (el xs (i2.j)).1.d.q (el xs (i2.j)).1.d.n (el xs (i2.j)).1.d.cap]) ((i2.j)*4) (fun F h9=>h9.1.1.1.2.1) (by omega) rfl Qe rfl (fun j v hv=>Jy (f:=(fun p=>Up p.1)) (l:=xs) (fun _=>rfl) (by omega) hv))<|QK (QD rfl)<|Qd rfl (fun w F hF h9=>En hF (h9.1.1.1.2.2 _ hxm) (by omega) (by omega) (by omega)) (fun x34=>Qd rfl (fun w F hF ⟨⟨⟨⟨⟨hP,hX,hXs⟩,⟨h11,h11_⟩⟩,⟨hon,hod⟩⟩,⟨hyn,hyd⟩⟩,⟨h34,h34_⟩⟩=>KX hF ⟨by assumption,by assumption⟩ ⟨by assumption,by assumption⟩ (by omega) (by have:=WT (el xs i2.j).2 (Qa (el ts i.i).t.2 i2.j).toNat;omega)) (fun x35=>VF<|QR (vs:=[_,_,_,_]) rfl rfl rfl Qe rfl .here .h4 wN<|QE<|Qk<|QC<|QB<|QA (Qs rfl rfl (by omega))<|wA rfl<|QE ?_))
   exact Qo (⟨i2.j+1,x35,hlt2⟩) (by show(el ts i.i).t.2.length - (i2.j+1)<(el ts i.i).t.2.length - i2.j;omega) wT wG (fun F h9=>⟨h9.1.1.1,by show JY F x35 (W1 _ (xs.map (·.2)) _ (i2.j+1));rw [Vk,vO hlx];exact h9.2⟩)
  ·
   have hge2:i2.j=(el ts i.i).t.2.length:=by have:=wJ hc;omega
   refine Qz ?_
   repeat (first | refine Qb ?_ | refine QV (by rfl) ?_)
   refine Qc<|QC<|QB<|QA (QJ (vs:=[_,_,_,_]) rfl Qe .u2 .h4 rfl)<|QA (QJ (vs:=[_,_,_,_]) rfl Qe .here .h4 rfl)<|QH rfl (fun w F hF ⟨⟨⟨⟨hP,hX,hXs⟩,⟨h11,h11_⟩⟩,⟨hon,hod⟩⟩,⟨hyn,hyd⟩⟩=>Eo hF ⟨by assumption,by assumption⟩ ⟨by assumption,by assumption⟩ (by omega) (by omega)) (fun x39=>QR (vs:=[_,_,_,_]) rfl rfl rfl Qe rfl .u2 .h4 wN<|QE<|Qk<|QC<|QB<|QA (Qs rfl rfl (by omega))<|wA rfl<|QE ?_)
   exact Qo (⟨i.i+1,x39,hlt⟩) (by show ts.length - (i.i+1)<ts.length - i.i;omega) wP (.cons _ (.cons _ wG)) (fun F h9=>⟨h9.1.1.1,by show JY F x39 (Zp _ (JG (ts.take (i.i+1))));rw [kB hlt,← hge2];exact h9.2⟩)
 ·
  have hge:i.i=ts.length:=by have:=wJ hc;omega
  refine Qz ?_
  repeat (first | refine Qb ?_ | refine QV (by rfl) ?_)
  refine Qc<|QC<|wE<|QA (QJ (vs:=[_,_,_,_]) rfl Qe .here .h4 rfl)<|QR (vs:=[_,_,_,_]) rfl rfl rfl Qe rfl .u1 .h4 wN<|wC<|QS ?_
  exact QP (i.x) rfl (.Jd (c:=[_,_,_,_]) rfl Qe .u1 .nil) (rfl) (fun F h9=>by have h:JY F i.x _:=⟨h9.2.1,h9.2.2⟩;rw [hge,ar] at h;exact h)
theorem pv {c:Rat} {xs:List Rat} {ks:List Int} (hc:JL c≤2400) (hx:∀ x∈xs,JL x≤2400) (hk:∀ k∈ks,0≤k∧k≤12):∀ i,i≤xs.length→i≤ks.length→JL (W1 c xs ks i)≤2400+i*28801:=by
 intro i
 induction i with
 |zero=>intro _ _;simpa [W1] using hc
 |succ i ih =>
  intro h1 h2
  have h3:=ih (by omega) (by omega)
  have h4:=J9 (W1 c xs ks i) ((el xs i)^(Qa ks i).toNat)
  have h5:=WT (el xs i) (Qa ks i).toNat
  have h6:=hx _ (JK (show i<xs.length by omega))
  have h7:0≤Qa ks i∧Qa ks i≤12:=by rw [Xy (show i<ks.length by omega)];exact hk _ (JK (by omega))
  have h8:(Qa ks i).toNat*JL (el xs i)≤12*2400:=fc (by omega) h6
  rw [Vk];omega
theorem jm {xs:List Rat} {B:Nat}:∀ (l:List Tm) (a:Rat),(∀ t∈l,JL (W1 t.1 xs t.2 t.2.length)≤B)→JL (l.foldl (fun a t=>a+W1 t.1 xs t.2 t.2.length) a)≤JL a+l.length*(B+1)
 |[],a,_=>by simp
 |t::l,a,h=>by
  have h1:=jm l (a+W1 t.1 xs t.2 t.2.length) fun t ht=>h t (by simp [ht])
  have h2:=Vc a (W1 t.1 xs t.2 t.2.length)
  have h3:=h t (by simp)
  rw [bc,aF,bn];omega
def cm (p:Pt) (ss:List (List UInt8)):List UInt8×Int :=
 if BN p ss.length=0 then(if Ql (ss.map Jg)=0 then Nd (Zp (ss.map Jj) (Q9 p)) else([],Ql (ss.map Jg))) else([],BN p ss.length)
theorem kA {w:ak} {F:Gs} {a:KG} {q:Option Addr} {n cap:Nat} {ss:List (List UInt8)} (hF:Fits F w) (hGl:JB F) (hR:Q6 F a.1.q a.1.n 2 (a.2.flatMap Kl)) (hA:Zx F a.2) (ht:VX a) (hS:Q6 F q n 1 (ss.map tx)) (hn:ss.length=n) (hsl:∀ s∈ss,s.length≤1000000) (hnb:n≤1000000) :
  QZ Tryz.prog 80 [a.1.v,.slice q n cap] w F (.tuple #[tx (cm (J2 a.2) ss).1,.int .i64 (cm (J2 a.2) ss).2]):=by
 dsimp only [Sr.v]
 refine QT.intro (G:=fun F=>JB F∧Q6 F a.1.q a.1.n 2 (a.2.flatMap Kl)∧Zx F a.2∧Q6 F q n 1 (ss.map tx)) Tryz.func80 rfl (by rfl) rfl rfl hF (fun F' hF'=>⟨hGl.le hF',hR.le hF',hA.le hF',hS.le hF'⟩)<|wE<|wB rfl<|wD rfl<|QG<|wF rfl<|wA rfl<|QA (Qj rfl E4)<|QH rfl (fun w F hF h9=>Fa hF (h9.1) (h9.2.1) (h9.2.2.1) (ht) (hnb)) (fun _=>wD rfl<|wF rfl<|QA (QU rfl rfl rfl)<|QE<|QC ?_)
 refine QQ rfl (fun hc=>?_) (fun hc=>?_)
 ·
  have hc0:=bne_iff_ne.1 hc
  refine wF rfl<|wB rfl<|wD rfl<|QS ?_
  exact Ja (()) rfl (.tmp rfl (.tmp rfl .nil)) (by unfold cm;rw [hn,if_neg hc0]) (fun F h9=>trivial)
 ·
  have hc0:=bne_eq_false_iff_eq.1 hc
  have hpl:Ql [if decide ((n:Int)=0)=true then 2 else 0,if decide ((n:Int)>25)=true then 5 else 0]=0∧XZ (J2 a.2) ((n:Int) - 1)=0:=by
   unfold BN at hc0
   by_cases g:Ql [if decide ((n:Int)=0)=true then 2 else 0,if decide ((n:Int)>25)=true then 5 else 0]=0
   ·rw [if_pos g] at hc0;exact⟨g,hc0⟩
   ·rw [if_neg g] at hc0;exact absurd hc0 g
  have hn1:=Ud hpl.1
  have oa:=KU hpl.2
  refine QO<|QC<|QG<|wF rfl<|QH rfl (fun w F hF h9=>Fv hF h9.1.1 (h9.1.2.2.2) ⟨hnb,hsl⟩) (fun _=>wD rfl<|wF rfl<|QA (QU rfl rfl rfl)<|QE<|QC ?_)
  refine QQ rfl (fun hc=>?_) (fun hc=>?_)
  ·
   have hd0:=bne_iff_ne.1 hc
   refine wF rfl<|wB rfl<|wD rfl<|QS ?_
   exact Ja (()) rfl (.tmp rfl (.tmp rfl .nil)) (by unfold cm;rw [hn,if_pos hc0,if_neg hd0]) (fun F h9=>trivial)
  ·
   have hd0:=bne_eq_false_iff_eq.1 hc
   have hck:∀ s∈ss,Jg s=0:=fun s hs=>SU hd0 _ (List.mem_map.2 ⟨s,hs,rfl⟩)
   have hxs:∀ x∈ss.map Jj,JL x≤2400:=fun x hx=>by
    obtain ⟨s,hs,rfl⟩:=List.mem_map.1 hx
    exact XE (hck s hs)
   have hpa:∀ t∈Q9 (J2 a.2),PW t.2:=oa.pw (by omega)
   have hpk:∀ t∈Q9 (J2 a.2),∀ k∈t.2,0≤k∧k≤12:=fun t ht=>by
    unfold Q9 at ht
    obtain ⟨x,hx,rfl⟩:=List.mem_map.1 ht
    exact(YI (oa.term x hx)).2.1
   have hwd:∀ t∈Q9 (J2 a.2),t.2.length=n:=fun t ht=>by have:=oa.wide t ht;omega
   have la:(Q9 (J2 a.2)).length≤64:=by unfold Q9;rw [aG];exact oa.len
   have hsl2:(ss.map Jj).length=n:=by rw [aG];exact hn
   have hvm:∀ t∈Q9 (J2 a.2),∀ i,i≤n→JL (W1 t.1 (ss.map Jj) t.2 i)≤722425:=fun t ht i hi=>by
    have h1:=pv (oa.sz t ht) hxs (hpk t ht) i (by omega) (by rw [hwd t ht];exact hi)
    have h2:i*28801≤25*28801:=aB _ (by omega)
    omega
   have hev:∀ l:List Tm,(∀ t∈l,t∈Q9 (J2 a.2))→l.length≤64→JL (Zp (ss.map Jj) l)≤50000000:=fun l hl h64=>by
    have h1:=jm (xs:=ss.map Jj) (B:=722425) l 0 fun t ht=>hvm t (hl t ht) _ (Nat.le_of_eq (hwd t (hl t ht)))
    have h2:JL (0:Rat)≤1:=by decide
    have h3:l.length*722426≤64*722426:=aB _ h64
    unfold Zp;omega
   refine QO<|QC<|wF rfl<|QH rfl (fun w F hF h9=>Vd hF h9.1.1.1 (a:=a) h9.1.1.2.1 h9.1.1.2.2.1 ht oa (by omega)) (fun c21=>JO _ (fun w F hF h=>aD h.2.2.2.1 h.2.len) (fun h21p=>?_))
   obtain ⟨e21,l21⟩:=h21p
   refine wA rfl<|QH rfl (fun w F hF h9=>vo hF h9.1.1.1.1 h9.1.1.1.2.2.2 hn hnb (fun s hs=>⟨hck s hs,hsl s hs⟩)) (fun c23=>JO _ (fun w F hF h=>h.2.2.2) (fun h23p=>?_))
   obtain ⟨e23,l23,n23⟩:=h23p
   refine QH rfl (fun w F hF ⟨⟨⟨⟨⟨hGl,hR,hA,hS⟩,_⟩,_⟩,h21⟩,h23⟩=>uM hF (q:=c21.1.q) (n:=c21.1.n) (cap:=c21.1.cap) (ts:=c21.2) (q2:=c23.1.q) (n2:=c23.1.n) (cap2:=c23.1.cap) (xs:=c23.2) (by rw [e21];exact h21) h23.1 h23.2.1 l23
    (J8 (Q:=fun t=>t.2.length=c23.1.n∧PW t.2) e21 fun t ht=>⟨by rw [n23];exact hwd t ht,hpa t ht⟩) (by omega)
    (J8 (Q:=fun t=>∀ i,i≤c23.1.n→JL (W1 t.1 (c23.2.map (·.2)) t.2 i)≤50000000) e21 fun t ht i hi=>by rw [e23];exact aq (hvm t ht i (by omega)) (by decide))
    (J8 (Q:=fun t=>∀ i,i<c23.1.n→(Qa t.2 i).toNat*JL (el c23.2 i).2≤40000000) e21 fun t ht i hi=>by
     have h1:JL (el c23.2 i).2≤2400:=by
      rw [← vO (by omega),e23];exact hxs _ (JK (by omega))
     have h2:0≤Qa t.2 i∧Qa t.2 i≤12:=by rw [Xy (by rw [hwd t ht];omega)];exact hpk t ht _ (JK (by rw [hwd t ht];omega))
     exact aq (fc (show(Qa t.2 i).toNat≤12 by omega) h1) (by decide))
    (fun i hi=>by
     rw [e23]
     refine hev _ (fun t ht=>?_) (by rw [KD,aw];omega)
     unfold JG at ht e21
     rw [← e21]
     obtain ⟨y,hy,rfl⟩:=List.mem_map.1 ht
     exact List.mem_map_of_mem (ez hy))) (fun x24=>?_)
   rw [e21,e23]
   refine QH rfl (fun w F hF ⟨⟨⟨⟨⟨⟨hGl,hR,hA,hS⟩,_⟩,_⟩,h21⟩,h23⟩,⟨h24,h24_⟩⟩=>Iy hF hGl ⟨by assumption,by assumption⟩ (by have:=hev _ (fun t ht=>ht) la;omega)) (fun _=>QA (QM rfl rfl)<|QA (QM rfl rfl)<|wB rfl<|wD rfl<|QS ?_)
   exact Ja (()) rfl (.tmp rfl (.tmp rfl .nil)) (by unfold cm;rw [hn,if_pos hc0,if_pos hd0];rfl) (fun F h9=>trivial)
theorem Mm {w:ak} {F:Gs} {r:Sr} {l:List Int} (hF:Fits F w) (hR:JR F r l) (hp:PW l):QZ Tryz.prog 195 [r.v] w F (.int .i64 l.sum):=by
 obtain ⟨q,n,c⟩:=r
 have hln:=hR.2.1
 dsimp only [Sr.v] at hln ⊢
 have hl1:=hp.2
 refine QT.intro (G:=fun F=>JR F ⟨q,n,c⟩ l) Tryz.func195 rfl (by rfl) rfl rfl hF (fun F' hF'=>hR.le hF')<|wE<|wD rfl<|wE<|wD rfl<|QG<|wE<|wD rfl<|QX<|Zc (ι:={i:Nat // i≤l.length}) [(0,_)] (fun i=>[(3,.int .i64 ((l.take i.1).sum)),(4,.int .i64 ((i.1:Nat):Int))]) (fun i=>l.length - i.1) (⟨0,aA _⟩) wK wL (fun i=>?_)
 simp only [ae,af]
 have hi:=i.2
 have hs:=hp.sum i.1 hi
 refine QG<|wF rfl<|wA rfl<|QA (Qj rfl Qf)<|QA (QU rfl rfl rfl)<|QE<|QC ?_
 refine QQ rfl (fun hc=>?_) (fun hc=>?_)
 ·
  have hlt:i.1<l.length:=by have:=wI hc;omega
  have he:=hp.el hlt
  refine QO<|QC<|QG<|QX<|QB<|wA rfl<|wA rfl<|wA rfl<|QA (JH (n:=n) (i.1) (fun F hR=>(hR).1) rfl rfl Qf Qp (by omega))<|QA (JQ (n:=n) ((i.1)*1) (fun F hR=>(hR).1) (by omega) rfl Qp (JJ (o:=l) (by omega)))<|QA (Qs rfl rfl (by omega))<|wB rfl<|QE<|Qk<|QC<|QB<|wA rfl<|QA (Qs rfl rfl (by omega))<|wB rfl<|QE ?_
  exact Qo (⟨i.1+1,hlt⟩) (by show l.length - (i.1+1)<l.length - i.1;omega) ⟨rfl,(congrArg (fun z:Int=>some (ah .i64 z)) (Hn hlt).symm),rfl,trivial⟩ wG (fun F h=>h)
 ·
  have hge:i.1=l.length:=by have:=wJ hc;omega
  refine Qz ?_
  repeat (first | refine Qb ?_ | refine QV (by rfl) ?_)
  refine Qc<|QC<|wF rfl<|wD rfl<|QS ?_
  exact wH rfl rfl (congrArg (ah .i64) (by rw [bA (by omega)])) (fun F hR=>trivial)
theorem vc {w:ak} {F:Gs} {q q2:Option Addr} {n c n2 c2:Nat} {a b:List Int} (hF:Fits F w) (hA:JR F ⟨q,n,c⟩ a) (hB:JR F ⟨q2,n2,c2⟩ b) (pa:PW a) (pb:PW b) (hl:a.length=b.length):QZ Tryz.prog 157 [.slice q n c,.slice q2 n2 c2] w F (.bool (before a b)):=by
 have na:=hA.2.1
 have nb:=hB.2.1
 dsimp only at na nb
 have la:=pa.2
 refine QT.intro (G:=fun F=>JR F ⟨q,n,c⟩ a∧JR F ⟨q2,n2,c2⟩ b) Tryz.func157 rfl (by rfl) rfl rfl hF (fun F' hF'=>⟨hA.le hF',hB.le hF'⟩)<|wE<|wD rfl<|QG<|wF rfl<|QH rfl (fun w F hF h9=>Mm hF (r:=⟨q,n,c⟩) h9.1 (pa)) (fun _=>wA rfl<|QH rfl (fun w F hF h9=>Mm hF (r:=⟨q2,n2,c2⟩) h9.1.2 (pb)) (fun _=>QA (QU rfl rfl rfl)<|QE<|QC ?_))
 refine QQ rfl (fun hc=>?_) (fun hc=>?_)
 ·
  have hne:=bne_iff_ne.1 hc
  refine wF rfl<|QH rfl (fun w F hF h9=>Mm hF (r:=⟨q,n,c⟩) h9.1.1.1 (pa)) (fun _=>wA rfl<|QH rfl (fun w F hF h9=>Mm hF (r:=⟨q2,n2,c2⟩) h9.1.1.1.2 (pb)) (fun _=>QA (QU rfl rfl rfl)<|wD rfl<|QS ?_))
  exact wH rfl rfl (congrArg ab (by unfold before;rw [decide_eq_false hne,Bool.false_and,Bool.or_false])) (fun F h9=>trivial)
 ·
  have hne:=bne_eq_false_iff_eq.1 hc
  refine QO<|QC<|QG<|wE<|wD rfl<|QX<|Zc (ι:=gN a b) [(0,_),(1,_)] (fun i=>[(5,.int .i64 ((i.i:Nat):Int))]) (fun i=>a.length - i.i) (⟨0,aA _,rfl⟩) wL wK (fun i=>?_)
  simp only [ae,af]
  have hi:=i.le
  refine QG<|wF rfl<|wA rfl<|QA (Qj rfl Qf)<|QA (QU rfl rfl rfl)<|QE<|QC ?_
  refine QQ rfl (fun hc=>?_) (fun hc=>?_)
  ·
   have hlt:i.i<a.length:=by have:=wI hc;omega
   refine QO<|QC<|QG<|QX<|QG<|JV wG mixed (by kernel_rfl)<|QK (QD rfl)<|QK (QD rfl)<|QK (JH (n:=n) (i.i) (fun F h9=>(h9.1.1.1).1) rfl rfl Qf Qp (by omega))<|QK (JQ (n:=n) ((i.i)*1) (fun F h9=>(h9.1.1.1).1) (by omega) rfl Qp (JJ (o:=a) (by omega)))<|QK (QD rfl)<|QK (QD rfl)<|QK (JH (n:=n2) (i.i) (fun F h9=>(h9.1.1.2).1) rfl rfl Qf Qp (by omega))<|QK (JQ (n:=n2) ((i.i)*1) (fun F h9=>(h9.1.1.2).1) (by omega) rfl Qp (JJ (o:=b) (by omega)))<|QK (QU rfl rfl rfl)<|Q3<|QC ?_
   refine QQ rfl (fun hc=>?_) (fun hc=>?_)
   ·
    have he:=bne_iff_ne.1 hc
    refine QG<|JV wG mixed (by kernel_rfl)<|QK (QD rfl)<|QK (QD rfl)<|QK (JH (n:=n) (i.i) (fun F h9=>(h9.1.1.1).1) rfl rfl Qf Qp (by omega))<|QK (JQ (n:=n) ((i.i)*1) (fun F h9=>(h9.1.1.1).1) (by omega) rfl Qp (JJ (o:=a) (by omega)))<|QK (QD rfl)<|QK (QD rfl)<|QK (JH (n:=n2) (i.i) (fun F h9=>(h9.1.1.2).1) rfl rfl Qf Qp (by omega))<|QK (JQ (n:=n2) ((i.i)*1) (fun F h9=>(h9.1.1.2).1) (by omega) rfl Qp (JJ (o:=b) (by omega)))<|QK (QU rfl rfl rfl)<|QK (QF rfl)<|Q3<|QC<|QS ?_
    repeat (first | refine JC ?_ | refine Q5 ?_)
    exact wH rfl rfl (congrArg ab (by unfold before;rw [i.step hlt (by omega),decide_eq_false he,hne];simp)) (fun F h9=>trivial)
   ·
    have he:=bne_eq_false_iff_eq.1 hc
    refine QO<|Qk<|QC<|QB<|wA rfl<|QA (Qs rfl rfl (by omega))<|wB rfl<|QE ?_
    exact Qo (⟨i.i+1,hlt,by rw [i.step hlt (by omega),he];simp⟩) (by show a.length - (i.i+1)<a.length - i.i;omega) wM wG (fun F h=>h)
  ·
   have hge:i.i=a.length:=by have:=wJ hc;omega
   refine Qz ?_
   repeat (first | refine Qb ?_ | refine QV (by rfl) ?_)
   refine Qc<|QC<|wE<|wD rfl<|QS ?_
   exact wH rfl rfl (congrArg ab (by unfold before;rw [i.h,hge,bB (ay _),hne];simp [Zv])) (fun F h9=>trivial)
theorem yD {f:List UInt8} {l:List Int} {v:Int} (h1:(l.length:Int)=v+1) (h2:∀ k∈l,0≤k):Z9 f l v=if decide (Ks l>12)=true then 4 else Jg f:=by
 unfold Z9
 rw [if_neg (fun h=>h h1),if_neg (j6 h2)]
 simp only [Ql]
 by_cases g:decide (Ks l>12)=true
 ·rw [if_pos g,if_pos g,if_neg (by decide)]
 ·rw [if_neg g,if_neg g,if_pos rfl]
  by_cases k:Jg f=0
  ·rw [k];rfl
  ·rw [if_neg k]
theorem Cw {w:ak} {F:Gs} {f:List UInt8} {q:Option Addr} {n cap:Nat} {l:List Int} {v:Int} (hF:Fits F w) (hGl:JB F) (hR:JR F ⟨q,n,cap⟩ l) (hf:f.length≤9223372036854775807) (hl:l.length≤9223372036854775807) (hv : -1000000≤v∧v≤1000000):QZ Tryz.prog 156 [.agg #[tx f,.slice q n cap],.int .i64 v] w F (.int .i64 (Z9 f l v)):=by
 have hln:l.length=n:=hR.2.1
 refine QT.intro (G:=fun F=>JB F∧JR F ⟨q,n,cap⟩ l) Tryz.func156 rfl (by rfl) rfl rfl hF (fun F' hF'=>⟨hGl.le hF',hR.le hF'⟩)<|wE<|Q2 rfl (vs:=[_,_]) rfl (fun b2=>wD rfl<|QG<|wE<|QA (QI rfl Yz Qv)<|QA (Qm rfl Qv .here (.skip .h1))<|QA (Qj rfl Qf)<|wA rfl<|QA (Qs rfl rfl (by omega))<|QA (QU rfl rfl rfl)<|QE<|QC ?_)
 refine QQ rfl (fun hc=>?_) (fun hc=>?_)
 ·
  have hne:=bne_iff_ne.1 hc
  refine wE<|wD rfl<|QS ?_
  exact wH rfl rfl (congrArg (ah .i64) (by unfold Z9;rw [if_pos (by rw [hln];exact hne)])) (fun F h9=>trivial)
 ·
  have heq:=bne_eq_false_iff_eq.1 hc
  refine QO<|QC<|wE<|wD rfl<|QG<|wE<|wD rfl<|QX<|Zc (ι:=uj l) [(2,_)] (fun i=>[(5,.int .i64 (Ks (l.take i.i))),(6,.int .i64 ((i.i:Nat):Int))]) (fun i=>l.length - i.i) (⟨0,aA _,by simp⟩) wK wL (fun i=>?_)
  simp only [ae,af]
  have hi:=i.le
  have hb:=BJ _ i.nn
  rw [aw] at hb
  refine QG<|wF rfl<|QA (QI rfl Yz Qv)<|QA (Qm rfl Qv .here (.skip .h1))<|QA (Qj rfl Qf)<|QA (QU rfl rfl rfl)<|QE<|QC ?_
  refine QQ rfl (fun hc=>?_) (fun hc=>?_)
  ·
   have hlt:i.i<l.length:=by have:=wI hc;omega
   refine QO<|QC<|QG<|QX<|QG<|wE<|QA (QI rfl Yz Qv)<|QA (Qm rfl Qv .here (.skip .h1))<|wA rfl<|QA (JH (n:=n) (i.i) (fun F h9=>(h9.2).1) rfl rfl Qf Qp (by omega))<|QA (JQ (n:=n) ((i.i)*1) (fun F h9=>(h9.2).1) (by omega) rfl Qp (JJ (o:=l) (by omega)))<|QA (QU rfl rfl rfl)<|QE<|QC ?_
   refine QQ rfl (fun hc=>?_) (fun hc=>?_)
   ·
    have hng:=wI hc
    refine wE<|wD rfl<|QS ?_
    repeat (first | refine JC ?_ | refine Q5 ?_)
    exact wH rfl rfl (congrArg (ah .i64) (by unfold Z9;rw [if_neg (by rw [hln];exact fun h=>h heq),if_pos (Lj hlt hng)])) (fun F h9=>trivial)
   ·
    have hng:=wJ hc
    refine QO<|QC<|QB<|wA rfl<|QA (QI rfl Yz Qv)<|QA (Qm rfl Qv .here (.skip .h1))<|wA rfl<|QA (JH (n:=n) (i.i) (fun F h9=>(h9.2).1) rfl rfl Qf Qp (by omega))<|QA (JQ (n:=n) ((i.i)*1) (fun F h9=>(h9.2).1) (by omega) rfl Qp (JJ (o:=l) (by omega)))<|QA (qE rfl rfl)<|QA (Qs rfl rfl (by omega))<|wB rfl<|QE<|Qk<|QC<|QB<|wA rfl<|QA (Qs rfl rfl (by omega))<|wB rfl<|QE ?_
    exact Qo (⟨i.i+1,hlt,by intro k hk;rw [X7 hlt] at hk;rcases List.mem_append.1 hk with hk | hk;exact i.nn k hk;rw [List.mem_singleton.1 hk,← Xy hlt];omega⟩) (by show l.length - (i.i+1)<l.length - i.i;omega) ⟨rfl,(congrArg (fun z:Int=>some (ah .i64 z)) (Ul hlt).symm),rfl,trivial⟩ wG (fun F h=>h)
  ·
   have hge:i.i=l.length:=by have:=wJ hc;omega
   refine Qz ?_
   repeat (first | refine Qb ?_ | refine QV (by rfl) ?_)
   refine Qc<|QC<|QG<|QG<|QB ?_
   rw [hge,ar]
   have hnn:=i.nn
   rw [hge,ar] at hnn
   have hte:=yD (f:=f) (v:=v) (by rw [hln];exact heq) hnn
   refine wA rfl<|QA (QU rfl rfl rfl)<|QE<|QC ?_
   refine QQ rfl (fun hc=>?_) (fun hc=>?_)
   ·
    have hbg:=hc
    refine wE<|wD rfl<|QS ?_
    exact wH rfl rfl (congrArg (ah .i64) (by rw [hte,if_pos hbg])) (fun F h9=>trivial)
   ·
    have hbg:=hc
    refine QO<|QC<|wE<|QA (QI rfl Wi Jo)<|QA (Qm rfl Jo .here .h1)<|QH rfl (fun w F hF h9=>qD hF (hf)) (fun _=>wD rfl<|QS ?_)
    exact wH rfl rfl (congrArg (ah .i64) (by rw [hte,hbg];rfl)) (fun F h9=>trivial)
section
variable {ps:List V5} {v:Int} {i:Nat}
theorem QBB (h:i<ps.length) (he:Z9 (el ps i).f (el ps i).k v≠0):Vg (J2 ps) v i=Z9 (el ps i).f (el ps i).k v:=by
 have e:Ql [Z9 (el ps i).f (el ps i).k v,if((el ps i).f==[48])=true then 6 else 0]=Z9 (el ps i).f (el ps i).k v:=by
  unfold Ql;rw [if_neg he]
 rw [step_eq h e,if_neg (fun g=>he g.1)]
theorem QBA (h:i<ps.length) (he:Z9 (el ps i).f (el ps i).k v=0) (hz:((el ps i).f==[48])=true):Vg (J2 ps) v i=6:=by
 have e:Ql [Z9 (el ps i).f (el ps i).k v,if((el ps i).f==[48])=true then 6 else 0]=6:=by
  rw [he,if_pos hz];rfl
 rw [step_eq h e,if_neg (fun g=>by have:=g.1;omega)]
theorem gn (h:i<ps.length) (he:Z9 (el ps i).f (el ps i).k v=0) (hz:((el ps i).f==[48])=false):Vg (J2 ps) v i=if 0<i∧before (el ps (i - 1)).k (el ps i).k=false then 11 else 0:=by
 have e:Ql [Z9 (el ps i).f (el ps i).k v,if((el ps i).f==[48])=true then 6 else 0]=0:=by
  rw [he,hz];rfl
 rw [step_eq h e]
 have hb:(0≤VH (el ps (i - 1)).k (el ps i).k)↔before (el ps (i - 1)).k (el ps i).k=false:=by
  rw [K9,decide_eq_false_iff_not];omega
 by_cases g:0<i∧before (el ps (i - 1)).k (el ps i).k=false
 ·rw [if_pos g,if_pos ⟨rfl,g.1,hb.2 g.2⟩]
 ·rw [if_neg g,if_neg (fun h=>g ⟨h.2.1,hb.1 h.2.2⟩)]
end
theorem Cx {w:ak} {F:Gs} {q:Option Addr} {n cap:Nat} {ps:List V5} {v:Int} (hF:Fits F w) (hGl:JB F) (hR:Q6 F q n 2 (ps.flatMap Kl)) (hP:Zx F ps) (hln:ps.length=n) (hf:∀ t∈ps,t.f.length≤9223372036854775807∧t.k.length≤9223372036854775807) (hl:ps.length≤9223372036854775807) (hv:0≤v∧v≤24):QZ Tryz.prog 61 [.slice q n cap,.int .i64 v] w F (.int .i64 (XZ (J2 ps) v)):=by
 have hal:(J2 ps).length=n:=by unfold J2;rw [aG];exact hln
 refine QT.intro (G:=fun F=>JB F∧Q6 F q n 2 (ps.flatMap Kl)∧Zx F ps) Tryz.func61 rfl (by rfl) rfl rfl hF (fun F' hF'=>⟨hGl.le hF',hR.le hF',hP.le hF'⟩)<|wE<|wD rfl<|QG<|wF rfl<|QA (Qj rfl Xq)<|QA (QU rfl rfl rfl)<|QE<|QC ?_
 refine QQ rfl (fun hc=>?_) (fun hc=>?_)
 ·
  have hbig:=hc
  refine wE<|wD rfl<|QS ?_
  exact wH rfl rfl (congrArg (ah .i64) (by unfold XZ;rw [hal,if_pos hbig])) (fun F h9=>trivial)
 ·
  have hbig:=wJ hc
  refine QO<|QC<|QG<|wE<|wD rfl<|QX<|Zc (ι:=Lb (J2 ps) v n) [(0,_),(1,_)] (fun i=>[(5,.int .i64 ((i.i:Nat):Int))]) (fun i=>n - i.i) (⟨0,aA _,fun j hj=>absurd hj (Nat.not_lt_zero _)⟩) wL wK (fun i=>?_)
  simp only [ae,af]
  have hi:=i.le
  refine QG<|wF rfl<|wA rfl<|QA (Qj rfl Xq)<|QA (QU rfl rfl rfl)<|QE<|QC ?_
  refine QQ rfl (fun hc=>?_) (fun hc=>?_)
  ·
   have hlt:i.i<n:=by have:=wI hc;omega
   have htm:el ps i.i∈ps:=JK (by omega)
   refine QO<|QC<|QG<|QX<|wF rfl<|wA rfl<|QA (JH (n:=n) (i.i) (fun F h9=>h9.2.1) rfl rfl Xq XT (by omega))<|QA (Xd (n:=n) (vs:=[tx (el ps (i.i)).f,.slice (el ps (i.i)).r.q (el ps (i.i)).r.n (el ps (i.i)).r.cap]) ((i.i)*2) (fun F h9=>h9.2.1) (by omega) rfl XT rfl (fun j v hv=>Jy (f:=Kl) (l:=ps) Yb (by omega) hv))<|wA rfl<|QH rfl (fun w F hF h9=>Cw hF (h9.1) (f:=(el ps i.i).f) (l:=(el ps i.i).k) (h9.2.2 _ htm) ((hf _ htm).1) ((hf _ htm).2) (by omega)) (fun _=>wD rfl<|QG<|wF rfl<|QA (QU rfl rfl rfl)<|QE<|QC ?_)
   refine QQ rfl (fun hc=>?_) (fun hc=>?_)
   ·
    have h23:=bne_iff_ne.1 hc
    refine wF rfl<|wD rfl<|QS ?_
    repeat (first | refine JC ?_ | refine Q5 ?_)
    exact wH rfl rfl (congrArg (ah .i64) (Hw hal hbig i hlt (QBB (by omega) h23) h23)) (fun F h9=>trivial)
   ·
    have h23:=bne_eq_false_iff_eq.1 hc
    refine QO<|QC<|QG<|wF rfl<|wA rfl<|QA (JH (n:=n) (i.i) (fun F h9=>h9.1.2.1) rfl rfl Xq XT (by omega))<|QA (QI rfl Wi Jo)<|QA (JQ (n:=n) ((i.i)*2+0) (fun F h9=>h9.1.2.1) (by omega) rfl Jo (Jy (f:=Kl) (l:=ps) Yb (by omega) rfl))<|QH rfl (fun w F hF h9=>uF hF ) (fun _=>QE<|QC ?_)
    refine QQ rfl (fun hc=>?_) (fun hc=>?_)
    ·
     have h30:=hc
     refine wE<|wD rfl<|QS ?_
     repeat (first | refine JC ?_ | refine Q5 ?_)
     exact wH rfl rfl (congrArg (ah .i64) (Hw hal hbig i hlt (QBA (by omega) h23 h30) (by decide))) (fun F h9=>trivial)
    ·
     have h30:=hc
     refine QO<|QC<|QG<|JV wG mixed (by kernel_rfl)<|QK (QD rfl)<|QK (QU rfl rfl rfl)<|QK (QD rfl) ?_
     refine Wu (t:=33) rfl (fun hb33=>?_) (fun hb33=>?_)
     ·
      have hi0:0<i.i:=by have:=wI hb33;omega
      have hz0:=(Mk (i.z (i.i - 1) (by omega))).1
      rw [Hi (show i.i - 1<ps.length by omega)] at hz0
      have htm0:el ps (i.i - 1)∈ps:=JK (by omega)
      refine Ji rfl rfl<|QK (QD rfl)<|Ji rfl rfl<|QK (QD rfl)<|Ji rfl rfl<|QK (XB rfl rfl (by omega))<|Ji rfl rfl<|QK (JH (n:=n) ((i.i - 1)) (fun F h9=>h9.1.1.2.1) rfl (congrArg (fun z:Int=>some (ah .i64 z)) (by omega)) Xq XT (by omega))<|Ji rfl rfl<|QK (QI rfl Yz Qv)<|Ji rfl rfl<|QK (JQ (n:=n) (((i.i - 1))*2+1) (fun F h9=>h9.1.1.2.1) (by omega) rfl Qv (Jy (f:=Kl) (l:=ps) Yb (by omega) rfl))<|Ji rfl rfl<|QK (QD rfl)<|Ji rfl rfl<|QK (QD rfl)<|Ji rfl rfl<|QK (JH (n:=n) (i.i) (fun F h9=>h9.1.1.2.1) rfl rfl Xq XT (by omega))<|Ji rfl rfl<|QK (QI rfl Yz Qv)<|Ji rfl rfl<|QK (JQ (n:=n) ((i.i)*2+1) (fun F h9=>h9.1.1.2.1) (by omega) rfl Qv (Jy (f:=Kl) (l:=ps) Yb (by omega) rfl))<|Ji rfl rfl<|Qd rfl (fun w F hF h9=>vc hF (a:=(el ps (i.i - 1)).k) (b:=(el ps i.i).k) (h9.1.1.2.2 _ htm0) (h9.1.1.2.2 _ htm) (Ko hz0 hv.2) (Ko h23 hv.2) (by have h1:=(YI hz0).1;have h2:=(YI h23).1;dsimp only at h1;omega)) (fun _=>Ji rfl rfl ?_)
      refine QK (Yc rfl)<|QK (Qi rfl rfl rfl)<|Q3<|QC ?_
      refine QQ rfl (fun hc=>?_) (fun hc=>?_)
      ·
       refine wE<|wD rfl<|QS ?_
       repeat (first | refine JC ?_ | refine Q5 ?_)
       exact wH rfl rfl (congrArg (ah .i64) (Hw hal hbig i hlt (by rw [gn (by omega) h23 h30,if_pos ⟨hi0,by simpa using hc⟩]) (by decide))) (fun F h9=>trivial)
      ·
       refine QO<|Qk<|QC<|QB<|wA rfl<|QA (Qs rfl rfl (by omega))<|wB rfl<|QE ?_
       exact Qo (⟨i.i+1,hlt,fun j hj=>by
        rcases bE j i.i with g | g
        ·exact i.z j g
        ·rw [show j=i.i from by omega];first | (rw [gn (by omega) h23 h30,if_neg (fun h=>by have:=wJ hb33;omega)]) | (rw [gn (by omega) h23 h30,if_neg (fun h=>by rw [h.2] at hc;cases hc)])⟩) (by show n - (i.i+1)<n - i.i;omega) wM wG (fun F h=>h.1.1.1)
     ·
      refine JP rfl rfl rfl<|JP rfl rfl rfl<|JP rfl rfl rfl<|JP rfl rfl rfl<|JP rfl rfl rfl<|JP rfl rfl rfl<|JP rfl rfl rfl<|JP rfl rfl rfl<|JP rfl rfl rfl<|JP rfl rfl rfl<|JP rfl rfl rfl<|JP rfl rfl rfl<|JP rfl rfl rfl<|QK (Qh rfl rfl rfl)<|Q3<|QC<|YQ rfl<|QO<|Qk<|QC<|QB<|wA rfl<|QA (Qs rfl rfl (by omega))<|wB rfl<|QE ?_
      exact Qo (⟨i.i+1,hlt,fun j hj=>by
        rcases bE j i.i with g | g
        ·exact i.z j g
        ·rw [show j=i.i from by omega];first | (rw [gn (by omega) h23 h30,if_neg (fun h=>by have:=wJ hb33;omega)]) | (rw [gn (by omega) h23 h30,if_neg (fun h=>by rw [h.2] at hc;cases hc)])⟩) (by show n - (i.i+1)<n - i.i;omega) wM wG (fun F h=>h.1.1)
  ·
   have hge:n≤i.i:=by have:=wJ hc;omega
   refine Qz ?_
   repeat (first | refine Qb ?_ | refine QV (by rfl) ?_)
   refine Qc<|QC<|wE<|wD rfl<|QS ?_
   exact wH rfl rfl (congrArg (ah .i64) (FL hal hbig i hge)) (fun F h9=>trivial)
def qj (p:Pt):Int:=if p.any (fun x=>decide (x.2.sum>12))=true then 4 else if decide ((p.length:Int)>64)=true then 5 else if p.any (fun x=>W5 x.1 != 0)=true then 4 else 0
theorem MN (ps:List V5) (q:List UInt8×List Int→Bool):(J2 ps).any q=ps.any fun t=>q (t.f,t.k):=by unfold J2;rw [ef];rfl
theorem ql {w:ak} {F:Gs} {q:Option Addr} {n cap:Nat} {ps:List V5} (hF:Fits F w) (hR:Q6 F q n 2 (ps.flatMap Kl)) (hP:Zx F ps) (hln:ps.length=n) (hf:∀ t∈ps,t.f.length≤1000000000∧PW t.k) (hl:ps.length≤1000000):QZ Tryz.prog 158 [.slice q n cap] w F (.int .i64 (qj (J2 ps))):=by
 have hal:(J2 ps).length=n:=by rw [Ve];exact hln
 refine QT.intro (G:=fun F=>Q6 F q n 2 (ps.flatMap Kl)∧Zx F ps) Tryz.func158 rfl (by rfl) rfl rfl hF (fun F' hF'=>⟨hR.le hF',hP.le hF'⟩)<|wE<|wD rfl<|QG<|wE<|wD rfl<|QX<|Zc (ι:=Ey ps (fun t=>decide (t.k.sum>12))) [(0,_)] (fun i=>[(3,.int .i64 ((i.i:Nat):Int))]) (fun i=>ps.length - i.i) (Ey.start _ _) wK wK (fun i=>?_)
 simp only [ae,af]
 have hi:=i.le
 refine QG<|wF rfl<|wA rfl<|QA (Qj rfl Xq)<|QA (QU rfl rfl rfl)<|QE<|QC ?_
 refine QQ rfl (fun hc=>?_) (fun hc=>?_)
 ·
  have hlt:i.i<ps.length:=by have:=wI hc;omega
  have htm:=JK hlt
  refine QO<|QC<|QG<|QX<|wF rfl<|wA rfl<|QA (JH (n:=n) (i.i) (fun F h9=>h9.1) rfl rfl Xq XT (by omega))<|QA (QI rfl Yz Qv)<|QA (JQ (n:=n) ((i.i)*2+1) (fun F h9=>h9.1) (by omega) rfl Qv (Jy (f:=Kl) (l:=ps) Yb (by omega) rfl))<|QH rfl (fun w F hF h9=>Mm hF (r:=(el ps i.i).r) (h9.2 _ htm) ((hf _ htm).2)) (fun _=>QA (QU rfl rfl rfl)<|QE<|QC ?_)
  refine QQ rfl (fun hc=>?_) (fun hc=>?_)
  ·
   have h17:=hc
   refine wE<|wD rfl<|QS ?_
   repeat (first | refine JC ?_ | refine Q5 ?_)
   exact wH rfl rfl (congrArg (ah .i64) (by unfold qj;rw [MN,if_pos (i.hit hlt h17)])) (fun F h9=>trivial)
  ·
   have h17:=hc
   refine QO<|Qk<|QC<|QB<|wA rfl<|QA (Qs rfl rfl (by omega))<|wB rfl<|QE ?_
   exact Qo (i.next hlt h17) (by show ps.length - (i.i+1)<ps.length - i.i;omega) wL wG (fun F h=>h.1)
 ·
  have hge:ps.length≤i.i:=by have:=wJ hc;omega
  have hn1:=i.stop hge
  refine Qz ?_
  repeat (first | refine Qb ?_ | refine QV (by rfl) ?_)
  refine Qc<|QC<|QG<|wF rfl<|QA (Qj rfl Xq)<|QA (QU rfl rfl rfl)<|QE<|QC ?_
  refine QQ rfl (fun hc=>?_) (fun hc=>?_)
  ·
   have h20:=hc
   refine wE<|wD rfl<|QS ?_
   exact wH rfl rfl (congrArg (ah .i64) (by unfold qj;rw [MN,if_neg hn1,hal,if_pos h20])) (fun F h9=>trivial)
  ·
   have h20:=hc
   refine QO<|QC<|QG<|wE<|wD rfl<|QX<|Zc (ι:=Ey ps (fun t=>W5 t.f != 0)) [(0,_)] (fun i2=>[(4,.int .i64 ((i2.i:Nat):Int))]) (fun i2=>ps.length - i2.i) (Ey.start _ _) wK wK (fun i2=>?_)
   simp only [ae,af]
   have hi2:=i2.le
   refine QG<|wF rfl<|wA rfl<|QA (Qj rfl Xq)<|QA (QU rfl rfl rfl)<|QE<|QC ?_
   refine QQ rfl (fun hc=>?_) (fun hc=>?_)
   ·
    have hlt:i2.i<ps.length:=by have:=wI hc;omega
    have htm:=JK hlt
    refine QO<|QC<|QG<|QX<|wF rfl<|wA rfl<|QA (JH (n:=n) (i2.i) (fun F h9=>h9.1) rfl rfl Xq XT (by omega))<|QA (QI rfl Wi Jo)<|QA (JQ (n:=n) ((i2.i)*2+0) (fun F h9=>h9.1) (by omega) rfl Jo (Jy (f:=Kl) (l:=ps) Yb (by omega) rfl))<|QH rfl (fun w F hF h9=>xa hF ((hf _ htm).1)) (fun _=>QA (QU rfl rfl rfl)<|QE<|QC ?_)
    refine QQ rfl (fun hc=>?_) (fun hc=>?_)
    ·
     have h33:=hc
     refine wE<|wD rfl<|QS ?_
     repeat (first | refine JC ?_ | refine Q5 ?_)
     exact wH rfl rfl (congrArg (ah .i64) (by unfold qj;rw [MN,if_neg hn1,hal,if_neg (by rw [h20];decide),MN,if_pos (i2.hit hlt h33)])) (fun F h9=>trivial)
    ·
     have h33:=hc
     refine QO<|Qk<|QC<|QB<|wA rfl<|QA (Qs rfl rfl (by omega))<|wB rfl<|QE ?_
     exact Qo (i2.next hlt h33) (by show ps.length - (i2.i+1)<ps.length - i2.i;omega) wL wG (fun F h=>h.1)
   ·
    have hge2:ps.length≤i2.i:=by have:=wJ hc;omega
    have hn2:=i2.stop hge2
    refine Qz ?_
    repeat (first | refine Qb ?_ | refine QV (by rfl) ?_)
    refine Qc<|QC<|wE<|wD rfl<|QS ?_
    exact wH rfl rfl (congrArg (ah .i64) (by unfold qj;rw [MN,if_neg hn1,hal,if_neg (by rw [h20];decide),MN,if_neg hn2])) (fun F h9=>trivial)
def dn (p:Pt) (v a b c:Int):Bool:=if(p.length:Int)>a∨XZ p v≠0 then false else !(p.any fun x=>decide (x.2.sum>b)||!(Nk x.1 c))
theorem xf {w:ak} {F:Gs} {q:Option Addr} {n cap:Nat} {ps:List V5} {v a b c:Int} (hF:Fits F w) (hGl:JB F) (hR:Q6 F q n 2 (ps.flatMap Kl)) (hP:Zx F ps) (hln:ps.length=n) (hf:∀ t∈ps,t.f.length≤9223372036854775807∧t.k.length≤9223372036854775807) (hl:ps.length≤9223372036854775807) (hv:0≤v∧v≤24) (hcd:0≤c∧c≤1000000):QZ Tryz.prog 97 [.slice q n cap,.int .i64 v,.int .i64 a,.int .i64 b,.int .i64 c] w F (.bool (dn (J2 ps) v a b c)):=by
 have hal:(J2 ps).length=n:=by rw [Ve];exact hln
 refine QT.intro (G:=fun F=>JB F∧Q6 F q n 2 (ps.flatMap Kl)∧Zx F ps) Tryz.func97 rfl (by rfl) rfl rfl hF (fun F' hF'=>⟨hGl.le hF',hR.le hF',hP.le hF'⟩)<|wE<|wD rfl<|QG<|wF rfl<|QA (Qj rfl Xq)<|wA rfl<|QA (QU rfl rfl rfl)<|wA rfl ?_
 refine Qn (t:=16) rfl (fun hb16=>?_) (fun hb16=>?_)
 ·
  have h16:=wI hb16
  refine QN rfl rfl rfl<|QN rfl rfl rfl<|QN rfl rfl rfl<|QN rfl rfl rfl<|QA (Qi rfl rfl rfl)<|wC<|GK rfl<|wE<|wD rfl<|QS ?_
  exact wH rfl rfl (congrArg ab (by unfold dn;rw [hal,if_pos (Or.inl h16)])) (fun F h9=>trivial)
 ·
  have h16:=wJ hb16
  refine QL rfl rfl<|wA rfl<|QL rfl rfl<|wA rfl<|QL rfl rfl<|QH rfl (fun w F hF h9=>Cx hF (h9.1) (h9.2.1) (h9.2.2) (hln) (hf) (hl) (hv)) (fun _=>QL rfl rfl<|QA (QU rfl rfl rfl)<|QA (Qh rfl rfl rfl)<|QE<|QC ?_)
  refine QQ rfl (fun hc2=>?_) (fun hc2=>?_)
  ·
   have h21:=bne_iff_ne.1 hc2
   refine wE<|wD rfl<|QS ?_
   exact wH rfl rfl (congrArg ab (by unfold dn;rw [if_pos (Or.inr h21)])) (fun F h9=>trivial)
  ·
   have h21:=bne_eq_false_iff_eq.1 hc2
   have hok:=KU h21
   have hpw:∀ t∈ps,PW t.k:=fun t ht=>Ko (hok.term (t.f,t.k) (List.mem_map.2 ⟨t,ht,rfl⟩)) hv.2
   refine QO<|QC<|QG<|wE<|wD rfl<|QX<|Zc (ι:=Ey ps (fun t=>decide (t.k.sum>b)||!(Nk t.f c))) [(0,_),(3,_),(4,_)] (fun i=>[(11,.int .i64 ((i.i:Nat):Int))]) (fun i=>ps.length - i.i) (Ey.start _ _) wM wK (fun i=>?_)
   simp only [ae,af]
   have hi:=i.le
   refine QG<|wF rfl<|wA rfl<|QA (Qj rfl Xq)<|QA (QU rfl rfl rfl)<|QE<|QC ?_
   refine QQ rfl (fun hc2=>?_) (fun hc2=>?_)
   ·
    have hlt:i.i<ps.length:=by have:=wI hc2;omega
    have htm:=JK hlt
    refine QO<|QC<|QG<|QX<|wF rfl<|wA rfl<|QA (JH (n:=n) (i.i) (fun F h9=>h9.1.2.1) rfl rfl Xq XT (by omega))<|QA (QI rfl Yz Qv)<|QA (JQ (n:=n) ((i.i)*2+1) (fun F h9=>h9.1.2.1) (by omega) rfl Qv (Jy (f:=Kl) (l:=ps) Yb (by omega) rfl))<|QH rfl (fun w F hF h9=>Mm hF (r:=(el ps i.i).r) (h9.1.2.2 _ htm) (hpw _ htm)) (fun _=>wA rfl<|QA (QU rfl rfl rfl)<|wA rfl ?_)
    refine Qn (t:=36) rfl (fun hb36=>?_) (fun hb36=>?_)
    ·
     refine QN rfl rfl rfl<|QN rfl rfl rfl<|QN rfl rfl rfl<|QN rfl rfl rfl<|QN rfl rfl rfl<|QN rfl rfl rfl<|QN rfl rfl rfl<|QN rfl rfl rfl<|QA (Qi rfl rfl rfl)<|wC<|GK rfl<|wE<|wD rfl<|QS ?_
     repeat (first | refine JC ?_ | refine Q5 ?_)
     exact wH rfl rfl (congrArg ab (by unfold dn;rw [hal,if_neg (fun h=>h.elim h16 (fun g=>g h21)),MN,i.hit hlt (by rw [hb36];rfl)];rfl)) (fun F h9=>trivial)
    ·
     refine QL rfl rfl<|wA rfl<|QL rfl rfl<|wA rfl<|QL rfl rfl<|QA (JH (n:=n) (i.i) (fun F h9=>h9.1.1.2.1) rfl rfl Xq XT (by omega))<|QL rfl rfl<|QA (QI rfl Wi Jo)<|QL rfl rfl<|QA (JQ (n:=n) ((i.i)*2+0) (fun F h9=>h9.1.1.2.1) (by omega) rfl Jo (Jy (f:=Kl) (l:=ps) Yb (by omega) rfl))<|QL rfl rfl<|wA rfl<|QL rfl rfl<|QH rfl (fun w F hF ⟨⟨⟨hGl,hR,hP⟩,_⟩,_⟩=>cP hF (by have h8:Jg (el ps i.i).f=0:=(YI (hok.term ((el ps i.i).f,(el ps i.i).k) (List.mem_map.2 ⟨el ps i.i,htm,rfl⟩))).2.2.2;have h9:=V6 (Jj (el ps i.i).f);rw [← (X6 h8).1] at h9;have h10:=XE h8;omega) (hcd)) (fun _=>QL rfl rfl<|QA (Yc rfl)<|QA (Qh rfl rfl rfl)<|QE<|QC ?_)
     refine QQ rfl (fun hc2=>?_) (fun hc2=>?_)
     ·
      refine wE<|wD rfl<|QS ?_
      repeat (first | refine JC ?_ | refine Q5 ?_)
      exact wH rfl rfl (congrArg ab (by unfold dn;rw [hal,if_neg (fun h=>h.elim h16 (fun g=>g h21)),MN,i.hit hlt (by rw [hc2];simp)];rfl)) (fun F h9=>trivial)
     ·
      refine QO<|Qk<|QC<|QB<|wA rfl<|QA (Qs rfl rfl (by omega))<|wB rfl<|QE ?_
      exact Qo (i.next hlt (by rw [hb36,Bool.false_or];exact hc2)) (by show ps.length - (i.i+1)<ps.length - i.i;omega) wN wG (fun F h=>h.1.1)
   ·
    have hge:ps.length≤i.i:=by have:=wJ hc2;omega
    refine Qz ?_
    repeat (first | refine Qb ?_ | refine QV (by rfl) ?_)
    refine Qc<|QC<|wE<|wD rfl<|QS ?_
    exact wH rfl rfl (congrArg ab (by unfold dn;rw [hal,if_neg (fun h=>h.elim h16 (fun g=>g h21)),MN];simp only [i.stop hge];rfl)) (fun F h9=>trivial)
def IX (have_:Pt) (e bad:Int) (want:Pt):Bool :=
 if bad=0 then(if qj want=0 then(e==0)&&decide (have_=want) else decide ((have_.length:Int)=0)&&(e==qj want)) else decide ((have_.length:Int)=0)&&(e==bad)
theorem vL {w:ak} {F:Gs} {q q2:Option Addr} {n cap n2 cap2:Nat} {a b:List V5} {e d:Int} (hF:Fits F w) (hR:Q6 F q n 2 (a.flatMap Kl)) (hP:Zx F a) (hR2:Q6 F q2 n2 2 (b.flatMap Kl)) (hP2:Zx F b) (hln:a.length=n) (hln2:b.length=n2) (hf:∀ t∈a,t.k.length≤1000000) (hf2:∀ t∈b,t.f.length≤1000000000∧PW t.k) (hl:a.length≤1000000) (hl2:b.length≤1000000):QZ Tryz.prog 64 [.slice q n cap,.int .i64 e,.int .i64 d,.slice q2 n2 cap2] w F (.bool (IX (J2 a) e d (J2 b))):=by
 have hal:(J2 a).length=n:=by rw [Ve];exact hln
 refine QT.intro (G:=fun F=>Q6 F q n 2 (a.flatMap Kl)∧Zx F a∧Q6 F q2 n2 2 (b.flatMap Kl)∧Zx F b) Tryz.func64 rfl (by rfl) rfl rfl hF (fun F' hF'=>⟨hR.le hF',hP.le hF',hR2.le hF',hP2.le hF'⟩)<|wE<|wD rfl<|QG<|wF rfl<|QA (QU rfl rfl rfl)<|QE<|QC ?_
 refine QQ rfl (fun hc=>?_) (fun hc=>?_)
 ·
  have h10:=eq_of_beq hc
  refine QB<|wA rfl<|QH rfl (fun w F hF h9=>ql hF (h9.2.2.1) (h9.2.2.2) (hln2) (hf2) (hl2)) (fun _=>wD rfl<|QG<|wF rfl<|QA (QU rfl rfl rfl)<|QE<|QC ?_)
  refine QQ rfl (fun hc=>?_) (fun hc=>?_)
  ·
   have h14:=bne_iff_ne.1 hc
   refine wF rfl<|QA (Qj rfl Xq)<|QA (QU rfl rfl rfl)<|wA rfl ?_
   refine Qn (t:=18) rfl (fun hb18=>?_) (fun hb18=>?_)
   ·
    refine QL rfl rfl<|wA rfl<|QL rfl rfl<|wA rfl<|QL rfl rfl<|QA (QU rfl rfl rfl)<|QA (Qi rfl rfl rfl)<|wD rfl<|QS ?_
    exact wH rfl rfl (congrArg ab (by unfold IX;rw [hal];simp_all)) (fun F h9=>trivial)
   ·
    refine QN rfl rfl rfl<|QN rfl rfl rfl<|QN rfl rfl rfl<|QA (Qh rfl rfl rfl)<|wD rfl<|QS ?_
    exact wH rfl rfl (congrArg ab (by unfold IX;rw [hal];simp_all)) (fun F h9=>trivial)
  ·
   have h14:=bne_eq_false_iff_eq.1 hc
   refine QO<|QC<|wF rfl<|QA (QU rfl rfl rfl)<|wA rfl ?_
   refine Qn (t:=25) rfl (fun hb25=>?_) (fun hb25=>?_)
   ·
    refine QL rfl rfl<|wA rfl<|QL rfl rfl<|wA rfl<|QL rfl rfl<|QH rfl (fun w F hF ⟨⟨hR,hP,hR2,hP2⟩,_⟩=>EE hF (hR) (hP) (hR2) (hP2) (hln) (hln2) (hf) (hl)) (fun _=>QA (Qi rfl rfl rfl)<|wD rfl<|QS ?_)
    exact wH rfl rfl (congrArg ab (by unfold IX;rw [hal];simp_all)) (fun F h9=>trivial)
   ·
    refine QN rfl rfl rfl<|QN rfl rfl rfl<|QN rfl rfl rfl<|QA (Qh rfl rfl rfl)<|wD rfl<|QS ?_
    exact wH rfl rfl (congrArg ab (by unfold IX;rw [hal];simp_all)) (fun F h9=>trivial)
 ·
  have h10:¬ d=0:=fun e=>by rw [e] at hc;cases hc
  refine QO<|QC<|QG<|wF rfl<|QA (QU rfl rfl rfl)<|QE<|QC ?_
  refine QQ rfl (fun hc=>?_) (fun hc=>?_)
  ·
   have h14:=bne_iff_ne.1 hc
   refine wF rfl<|QA (Qj rfl Xq)<|QA (QU rfl rfl rfl)<|wA rfl ?_
   refine Qn (t:=18) rfl (fun hb18=>?_) (fun hb18=>?_)
   ·
    refine QL rfl rfl<|wA rfl<|QL rfl rfl<|wA rfl<|QL rfl rfl<|QA (QU rfl rfl rfl)<|QA (Qi rfl rfl rfl)<|wD rfl<|QS ?_
    exact wH rfl rfl (congrArg ab (by unfold IX;rw [hal];simp_all)) (fun F h9=>trivial)
   ·
    refine QN rfl rfl rfl<|QN rfl rfl rfl<|QN rfl rfl rfl<|QA (Qh rfl rfl rfl)<|wD rfl<|QS ?_
    exact wH rfl rfl (congrArg ab (by unfold IX;rw [hal];simp_all)) (fun F h9=>trivial)
  ·
   have h14:=bne_eq_false_iff_eq.1 hc
   refine QO<|QC<|wF rfl<|QA (QU rfl rfl rfl)<|wA rfl ?_
   refine Qn (t:=25) rfl (fun hb25=>?_) (fun hb25=>?_)
   ·
    refine QL rfl rfl<|wA rfl<|QL rfl rfl<|wA rfl<|QL rfl rfl<|QH rfl (fun w F hF ⟨hR,hP,hR2,hP2⟩=>EE hF (hR) (hP) (hR2) (hP2) (hln) (hln2) (hf) (hl)) (fun _=>QA (Qi rfl rfl rfl)<|wD rfl<|QS ?_)
    exact wH rfl rfl (congrArg ab (by unfold IX;rw [hal];simp_all)) (fun F h9=>trivial)
   ·
    refine QN rfl rfl rfl<|QN rfl rfl rfl<|QN rfl rfl rfl<|QA (Qh rfl rfl rfl)<|wD rfl<|QS ?_
    exact wH rfl rfl (congrArg ab (by unfold IX;rw [hal];simp_all)) (fun F h9=>trivial)
def de (p:Pt):Bool:=!(p.any fun x=>decide ((x.2.length:Int)>30)||decide ((x.1.length:Int)>20))
def yp (p:Pt):Bool:=if(decide ((p.length:Int)>8)&&decide ((p.length:Int)≤64))||decide ((p.length:Int)>70) then false else de p
def j1 (x y:Rat) (k:Nat):Rat:=x+(y - x)*ag ((k%8:Nat):Int) 7
theorem yt {w:ak} {F:Gs} {x y:Rat} {k:Nat} (hF:Fits F w) (hx:JL x≤20000) (hy:JL y≤20000) (hk:k<256):QZ Tryz.prog 98 [.agg #[tx (JN x),tx (JN y)],.int .u8 (k:Nat)] w F (tx (JN (j1 x y k))):=by
 have hq7:JL (ag ((k%8:Nat):Int) 7)≤100000:=by
  have h1:=YL (a:=((k%8:Nat):Int)) (b:=7) (by decide)
  have h2:sz ((k%8:Nat):Int)≤64:=aq (Yx (b:=1000) (by omega)) (by decide)
  have h3:sz 7≤64:=by decide
  omega
 have hq8:JL (ag ((k%8:Nat):Int) 7)≤64:=by
  have h1:=YL (a:=((k%8:Nat):Int)) (b:=7) (by decide)
  have h2:sz ((k%8:Nat):Int)≤64:=aq (Yx (b:=1000) (by omega)) (by decide)
  have h3:sz 7≤64:=by decide
  omega
 refine QT.intro (G:=fun F=>True) Tryz.func98 rfl (by rfl) rfl rfl hF (fun F' hF'=>trivial)<|wE<|Q2 rfl (vs:=[_,_]) rfl (fun b2=>wD rfl<|QG<|JV wG mixed (by kernel_rfl)<|QK (QI rfl WK Jo)<|QK (Qm rfl Jo .here .h1)<|QK (QI rfl Wh Jo)<|QK (Qm rfl Jo .here (.skip .h1))<|QK (QI rfl WK Jo)<|QK (Qm rfl Jo .here .h1)<|Qd rfl (fun w F hF _=>gu hF (by omega) (by omega)) (fun _=>QK (QD rfl)<|QK (Pw rfl gV k_3 (by omega))<|QK (Kn rfl rfl (by omega) (by omega))<|Qd rfl (fun w F hF _=>gz (num:=((k%8:Nat):Int)) hF (by omega) (by omega) (by decide)) (fun _=>Qd rfl (fun w F hF h9=>dA hF ((by have:=kh y x;omega)) (hq7)) (fun _=>Qd rfl (fun w F hF h9=>qt hF (by omega) ((by have:=J9 (y - x) (ag ((k%8:Nat):Int) 7);have:=kh y x;omega))) (fun _=>QK (QF rfl)<|Q3<|QC ?_)))))
 refine QS ?_
 exact wH rfl rfl (rfl) (fun F h9=>trivial)
section
variable [Dr] [df:Df] {N:Nat} {m:Sl} {S:ak→Prop} {ty:aK}
theorem Oc {yT:aK} {x y:bV} {a b c d:List UInt8} (hx:ev m x=some (.agg #[tx a,tx b])) (hy:ev m y=some (.agg #[tx c,tx d])):Qt Tryz.prog N m S (.binOp .eql 24 x y yT) ty (.bool (decide (a=c)&&decide (b=d))):=fun ac w _ _ _ _ ha _=>by
 have h1:=equal_span w a b c d
 simp only [execOp,ha.ev hx,ha.ev hy,ey]
 have h2:(eqGuard .eql 24 x y (.agg #[tx a,tx b]) (.agg #[tx c,tx d])).run Tryz.prog w = .ok () w:=by
  simp [eqGuard,Rk]
 rw [h2]
 simp [binOp,h1]
end
def G5 (w:List UInt8×List UInt8):Int:=Ql [W5 w.1,W5 w.2]
def IK (have_:List UInt8×List UInt8) (e bad:Int) (want:List UInt8×List UInt8):Bool :=
 if bad=0 then(if G5 want=0 then(e==0)&&(decide (have_.1=want.1)&&decide (have_.2=want.2)) else(have_.1==[])&&((have_.2==[])&&(e==G5 want))) else(have_.1==[])&&((have_.2==[])&&(e==bad))
theorem uT {w:ak} {F:Gs} {a b:List UInt8×List UInt8} {e d:Int} (hF:Fits F w) (hl:b.1.length≤1000000∧b.2.length≤1000000):QZ Tryz.prog 26 [.agg #[tx a.1,tx a.2],.int .i64 e,.int .i64 d,.agg #[tx b.1,tx b.2]] w F (.bool (IK a e d b)):=by
 refine QT.intro (G:=fun F=>True) Tryz.func26 rfl (by rfl) rfl rfl hF (fun F' hF'=>trivial)<|wE<|Q2 rfl (vs:=[_,_]) rfl (fun b4=>Q2 rfl (vs:=[_,_]) rfl (fun b7=>wD rfl<|QG<|wF rfl<|QA (QU rfl rfl rfl)<|QE<|QC ?_))
 refine QQ rfl (fun hc=>?_) (fun hc=>?_)
 ·
  have h10:=eq_of_beq hc
  refine QB<|QA (QJ (vs:=[_,_]) rfl JU .here .h2 rfl)<|QH rfl (fun w F hF _=>qk hF (hl)) (fun _=>wD rfl<|QG<|wF rfl<|QA (QU rfl rfl rfl)<|QE<|QC ?_)
  refine QQ rfl (fun hc=>?_) (fun hc=>?_)
  ·
   have h14:=bne_iff_ne.1 hc
   refine wE<|QA (QI rfl WK Jo)<|QA (Qm rfl Jo .u1 .h1)<|QA (K3 rfl rfl)<|wA rfl ?_
   refine Qn (t:=18) rfl (fun hb18=>?_) (fun hb18=>?_)
   ·
    refine QL rfl rfl<|QA (QI rfl Wh Jo)<|QL rfl rfl<|QA (Qm rfl Jo .u1 (.skip .h1))<|QL rfl rfl<|QA (K3 rfl rfl)<|QA (Qi rfl rfl rfl)<|wA rfl ?_
    refine Qn (t:=23) rfl (fun hb23=>?_) (fun hb23=>?_)
    ·
     refine QL rfl rfl<|wA rfl<|QL rfl rfl<|wA rfl<|QL rfl rfl<|QA (QU rfl rfl rfl)<|QA (Qi rfl rfl rfl)<|wD rfl<|QS ?_
     exact wH rfl rfl (congrArg ab (by unfold IK G5;simp_all)) (fun F h9=>trivial)
    ·
     refine QN rfl rfl rfl<|QN rfl rfl rfl<|QN rfl rfl rfl<|QA (Qh rfl rfl rfl)<|wD rfl<|QS ?_
     exact wH rfl rfl (congrArg ab (by unfold IK G5;simp_all)) (fun F h9=>trivial)
   ·
    refine QN rfl rfl rfl<|QN rfl rfl rfl<|QN rfl rfl rfl<|QA (Qh rfl rfl rfl)<|wA rfl<|QN rfl rfl rfl<|QN rfl rfl rfl<|QN rfl rfl rfl<|QA (Qh rfl rfl rfl)<|wD rfl<|QS ?_
    exact wH rfl rfl (congrArg ab (by unfold IK G5;simp_all)) (fun F h9=>trivial)
  ·
   have h14:=bne_eq_false_iff_eq.1 hc
   refine QO<|QC<|wF rfl<|QA (QU rfl rfl rfl)<|wA rfl ?_
   refine Qn (t:=30) rfl (fun hb30=>?_) (fun hb30=>?_)
   ·
    refine QL rfl rfl<|QA (QJ (vs:=[_,_]) rfl JU .u1 .h2 rfl)<|QL rfl rfl<|QA (QJ (vs:=[_,_]) rfl JU .here .h2 rfl)<|QL rfl rfl<|QA (Oc rfl rfl)<|QA (Qi rfl rfl rfl)<|wD rfl<|QS ?_
    exact wH rfl rfl (congrArg ab (by unfold IK G5;simp_all)) (fun F h9=>trivial)
   ·
    refine QN rfl rfl rfl<|QN rfl rfl rfl<|QN rfl rfl rfl<|QA (Qh rfl rfl rfl)<|wD rfl<|QS ?_
    exact wH rfl rfl (congrArg ab (by unfold IK G5;simp_all)) (fun F h9=>trivial)
 ·
  have h10:¬ d=0:=fun e=>by rw [e] at hc;cases hc
  refine QO<|QC<|QG<|wF rfl<|QA (QU rfl rfl rfl)<|QE<|QC ?_
  refine QQ rfl (fun hc=>?_) (fun hc=>?_)
  ·
   have h14:=bne_iff_ne.1 hc
   refine wE<|QA (QI rfl WK Jo)<|QA (Qm rfl Jo .u1 .h1)<|QA (K3 rfl rfl)<|wA rfl ?_
   refine Qn (t:=18) rfl (fun hb18=>?_) (fun hb18=>?_)
   ·
    refine QL rfl rfl<|QA (QI rfl Wh Jo)<|QL rfl rfl<|QA (Qm rfl Jo .u1 (.skip .h1))<|QL rfl rfl<|QA (K3 rfl rfl)<|QA (Qi rfl rfl rfl)<|wA rfl ?_
    refine Qn (t:=23) rfl (fun hb23=>?_) (fun hb23=>?_)
    ·
     refine QL rfl rfl<|wA rfl<|QL rfl rfl<|wA rfl<|QL rfl rfl<|QA (QU rfl rfl rfl)<|QA (Qi rfl rfl rfl)<|wD rfl<|QS ?_
     exact wH rfl rfl (congrArg ab (by unfold IK G5;simp_all)) (fun F _=>trivial)
    ·
     refine QN rfl rfl rfl<|QN rfl rfl rfl<|QN rfl rfl rfl<|QA (Qh rfl rfl rfl)<|wD rfl<|QS ?_
     exact wH rfl rfl (congrArg ab (by unfold IK G5;simp_all)) (fun F _=>trivial)
   ·
    refine QN rfl rfl rfl<|QN rfl rfl rfl<|QN rfl rfl rfl<|QA (Qh rfl rfl rfl)<|wA rfl<|QN rfl rfl rfl<|QN rfl rfl rfl<|QN rfl rfl rfl<|QA (Qh rfl rfl rfl)<|wD rfl<|QS ?_
    exact wH rfl rfl (congrArg ab (by unfold IK G5;simp_all)) (fun F _=>trivial)
  ·
   have h14:=bne_eq_false_iff_eq.1 hc
   refine QO<|QC<|wF rfl<|QA (QU rfl rfl rfl)<|wA rfl ?_
   refine Qn (t:=30) rfl (fun hb30=>?_) (fun hb30=>?_)
   ·
    refine QL rfl rfl<|QA (QJ (vs:=[_,_]) rfl JU .u1 .h2 rfl)<|QL rfl rfl<|QA (QJ (vs:=[_,_]) rfl JU .here .h2 rfl)<|QL rfl rfl<|QA (Oc rfl rfl)<|QA (Qi rfl rfl rfl)<|wD rfl<|QS ?_
    exact wH rfl rfl (congrArg ab (by unfold IK G5;simp_all)) (fun F _=>trivial)
   ·
    refine QN rfl rfl rfl<|QN rfl rfl rfl<|QN rfl rfl rfl<|QA (Qh rfl rfl rfl)<|wD rfl<|QS ?_
    exact wH rfl rfl (congrArg ab (by unfold IK G5;simp_all)) (fun F _=>trivial)
theorem zh (z:Int):C1 (X1 z)=aj z.natAbs:=by
 have h:=xV ((z:Int):Rat)
 rw [uV,show((z:Int):Rat).num=z from by simp] at h
 unfold C1
 rw [h]
 unfold E7
 by_cases h0:z<0
 ·rw [if_pos h0,if_pos (by decide),YU h0];rfl
 ·rw [if_neg h0,J3 (by omega),if_neg (by split<;>decide)]
theorem Iq (x:Rat):W5 (JN x)=if XN x=true then 4 else 0:=by
 have hn:decide (600<(C1 (numOf (JN x))).length)=Br x.num:=by
  have e:numOf (JN x)=X1 x.num:=by
   unfold numOf
   by_cases h:x.den=1
   ·obtain ⟨h1,h2⟩:=PK h
    rw [h2,ar,h1]
   ·exact(GR h).2.2.1
  rw [e,zh]
  unfold Br
  exact decide_eq_decide.2 (SH _)
 have hd:decide (600<(UM (JN x)).length)=Br x.den:=by
  unfold UM Br
  by_cases h:x.den=1
  ·rw [if_pos ((PL x).2 h),h]
   have h1:¬ lim≤(((1:Nat):Int)).natAbs:=by
    exact Nat.not_le.2 (eQ Nat.one_le_two_pow Fh)
   rw [decide_eq_false h1]
   simp
  ·rw [if_neg fun e=>h ((PL x).1 e),(GR h).2.2.2]
   exact decide_eq_decide.2 (SH _)
 unfold W5 XN
 rw [hn,hd]
theorem gp (x:Rat×Rat):IK (V4 x).1 (V4 x).2 0 (JN x.1,JN x.2)=true:=by
 unfold IK V4 G5
 dsimp only
 rw [if_pos rfl,Iq,Iq]
 cases XN x.1<;>cases XN x.2<;>simp [Ql]
theorem CO (i:Nat):V3 i*((2^i:Int):Rat)=1:=by
 unfold V3
 induction i with
 |zero=>decide +kernel
 |succ i ih =>
  have e:((2^(i+1):Int):Rat)=((2^i:Int):Rat)*2:=by rw [Int.pow_succ,Rat.intCast_mul];rfl
  rw [bC,e]
  have h2:ag 1 2*2=1:=by decide +kernel
  rw [show ag 1 2^i*ag 1 2*(((2^i:Int):Rat)*2)=(ag 1 2^i*((2^i:Int):Rat))*(ag 1 2*2) from by
   rw [aE,aE];congr 1;rw [← aE,ek (ag 1 2),aE],ih,h2,aM]
theorem jk (i:Nat):V3 i≠0:=fun e=>vj i (by rw [e];rfl)
theorem CX (x:Rat) (i:Nat):x / V3 i=x*((2^i:Int):Rat):=by
 have h:=CO i
 rw [fu]
 congr 1
 have h1:=Rat.inv_mul_cancel (V3 i) (jk i)
 calc (V3 i)⁻¹=(V3 i)⁻¹*(V3 i*((2^i:Int):Rat)):=by rw [h,aM]
  _=((V3 i)⁻¹*V3 i)*((2^i:Int):Rat):=by rw [aE]
  _=_:=by rw [h1,Rat.one_mul]
theorem zK (n:Int) (i:Nat):ag n (2^i)=(n:Rat)*V3 i:=by
 have h:=CX (((n:Int):Rat)*V3 i) i
 have hne:=jk i
 rw [Rat.divInt_eq_div]
 have h2:((2^i:Int):Rat)≠0:=fun e=>by have:=CO i;rw [e,ej] at this;exact absurd this (by decide)
 have h3:(V3 i)=(((2^i:Int):Rat))⁻¹:=by
  have h1:=Rat.mul_inv_cancel (((2^i:Int):Rat)) h2
  calc V3 i=V3 i*(((2^i:Int):Rat)*(((2^i:Int):Rat))⁻¹):=by rw [h1,aM]
   _=(V3 i*((2^i:Int):Rat))*(((2^i:Int):Rat))⁻¹:=by rw [aE]
   _=_:=by rw [CO,Rat.one_mul]
 rw [h3,fu]
theorem dL (r:Rat×Rat) (b:Int):xw r b=(Yf r.1 b.toNat,-Yf (-r.2) b.toNat):=by
 unfold xw two Yf
 rw [zK,zK,CX,CX,Rat.intCast_neg,Rat.neg_mul,Rat.neg_mul]
structure NmI (s:List UInt8) where
 i:Nat
 le:i≤s.length
 e:GZ 0 s=GZ i (s.drop i)
structure TiI (g:Bool) (l:List Int) where
 k:Nat
 le:k≤l.length
 lo : -9223372036854775808≤Ww g (l.drop k)
 hi:Ww g (l.drop k)≤9223372036854775807
def ur (g:Bool) (d:Int):Int:=if g=true then -d else d
def ovB (o d:Int):Bool:=(decide (o>9223372036)||decide (o < -9223372036))||(decide (o=9223372036)&&decide (d>854775807))||(decide (o = -9223372036)&&decide (d < -854775808))
theorem ua {l:List Int} {k:Nat} (h:k<l.length):Qa l k∈l:=by rw [Xx h];exact bQ h
theorem js {l:List Int} {k:Nat} (h0:0<k) (h:k≤l.length):dv B9 (l.drop (k - 1))=Qa l (k - 1)+B9*dv B9 (l.drop k):=by
 have hk:k - 1<l.length:=by omega
 rw [List.drop_eq_getElem_cons hk,show k - 1+1=k by omega,dv,Xx hk]
theorem DG.drop {l:List Int} (hd:DG B9 l) (k:Nat):DG B9 (l.drop k):=fun x hx=>hd x (List.mem_of_mem_drop hx)
theorem xW {g:Bool} {l:List Int} {k:Nat} (h0:0<k) (h:k≤l.length):Ww g (l.drop (k - 1))=Ww g (l.drop k)*1000000000+ur g (Qa l (k - 1)):=by
 unfold Ww ur
 rw [js h0 h]
 unfold B9
 cases g<;>simp<;>omega
theorem gZ {g:Bool} {l:List Int} {k:Nat} (hd:DG B9 l) (h0:0<k) (h:k≤l.length) (hb:ovB (Ww g (l.drop k)) (ur g (Qa l (k - 1)))=false):(-9223372036≤Ww g (l.drop k)∧Ww g (l.drop k)≤9223372036)∧-9223372036854775808≤Ww g (l.drop k)*1000000000+ur g (Qa l (k - 1))∧Ww g (l.drop k)*1000000000+ur g (Qa l (k - 1))≤9223372036854775807:=by
 have h2:0≤dv B9 (l.drop k):=Qu (by decide) (hd.drop k)
 have h3:=hd _ (ua (show k - 1<l.length by omega))
 unfold ovB Ww ur at hb
 unfold Ww ur
 unfold B9 at *
 cases g
 ·simp at hb ⊢;omega
 ·simp at hb ⊢;omega
def TiI.next {g:Bool} {l:List Int} (i:TiI g l) (hd:DG B9 l) (h0:0<i.k) (hb:ovB (Ww g (l.drop i.k)) (ur g (Qa l (i.k - 1)))=false):TiI g l:=⟨i.k - 1,by have:=i.le;omega,by
  rw [xW h0 i.le];exact(gZ hd h0 i.le hb).2.1,by
  rw [xW h0 i.le];exact(gZ hd h0 i.le hb).2.2⟩
def cd (c:UInt8):Bool:=c==47||c==46
structure PtI (s:List UInt8) where
 i:Nat
 le:i≤s.length
 z:(s.take i).all (fun c=>!cd c)=true
theorem Cv {s:List UInt8} {i:Nat} (h:i<s.length):s.take (i+1)=s.take i++[s[i]]:=by
 rw [List.take_succ,aH h];rfl
def PtI.next {s:List UInt8} (j:PtI s) (h:j.i<s.length) (e:cd s[j.i]=false):PtI s:=⟨j.i+1,h,by rw [Cv h,List.all_append,j.z];simp [e]⟩
def ptK (t:List UInt8):Nat:=ahead cd t
def QAs (t:List UInt8):Bool:=decide (ptK t<t.length)&&el t (ptK t)==46
section
variable {w:ak} {F:Gs}
theorem vY {p:(List UInt8×List UInt8)×Int} {r:Rat×Rat} (hF:Fits F w) (hp:p=V4 r) (hr:JL r.1≤400000∧JL r.2≤400000):QZ Tryz.prog 26 [.agg #[tx p.1.1,tx p.1.2],.int .i64 p.2,.int .i64 0,.agg #[tx (JN r.1),tx (JN r.2)]] w F (.bool true):=by
 rw [hp]
 have h:=uT (a:=(V4 r).1) (b:=(JN r.1,JN r.2)) (e:=(V4 r).2) (d:=0) hF ⟨by have:=V6 r.1;show(JN r.1).length≤_;omega,by have:=V6 r.2;show(JN r.2).length≤_;omega⟩
 rw [gp] at h
 exact h
variable {a b:List UInt8}
end
def z6 (a b:List UInt8×List UInt8):Bool×Int:=if Ql [Jm a.1 a.2,Jm b.1 b.2]=0 then(decide (0≤Wr (Jj a.1) (Jj b.1))&&decide (Wr (Jj a.2) (Jj b.2)≤0),0) else(false,Ql [Jm a.1 a.2,Jm b.1 b.2])
theorem gU {w:ak} {F:Gs} {a b:List UInt8×List UInt8} (hF:Fits F w) (hGl:JB F) (ha:short a) (hb:short b):QZ Tryz.prog 49 [.agg #[tx a.1,tx a.2],.agg #[tx b.1,tx b.2]] w F (.tuple #[.bool (z6 a b).1,.int .i64 (z6 a b).2]):=by
 refine QT.intro (G:=fun F=>JB F) Tryz.func49 rfl (by rfl) rfl rfl hF (fun F' hF'=>hGl.le hF')<|wE<|Q2 rfl (vs:=[_,_]) rfl (fun b2=>Q2 rfl (vs:=[_,_]) rfl (fun b3=>wB rfl<|wD rfl<|QG<|QG<|JV wG mixed (by kernel_rfl)<|QK (QJ (vs:=[_,_]) rfl JU .u1 .h2 rfl)<|Qd rfl (fun w F hF hGl=>Yr hF hGl (ha)) (fun _=>QK (QJ (vs:=[_,_]) rfl JU .here .h2 rfl)<|Qd rfl (fun w F hF h9=>Yr hF h9.1 (hb)) (fun _=>?_))))
 refine Ju rfl (Q8 Zn) Y7 BO rfl rfl (fun b13=>?_) (fun w h=>h.imp (.cons_cons _ (.cons_cons _ .slnil)) (fun F h=>h.1.1))
 refine Qd rfl (fun w F hF h9=>Zz hF (Q6.of (n:=2) (sz:=1) (cs:=List.map Qy [Jm a.1 a.2,Jm b.1 b.2]) h9.2 rfl) (by decide)) (fun _=>QK (QF rfl)<|Q3<|QC<|wF rfl<|QA (QU rfl rfl rfl)<|QE<|QC ?_)
 refine QQ rfl (fun hc=>?_) (fun hc=>?_)
 ·
  have hbad:¬ Ql [Jm a.1 a.2,Jm b.1 b.2]=0:=by simpa using hc
  refine wF rfl<|wB rfl<|wD rfl<|QS ?_
  exact Ja (()) rfl (.tmp rfl (.tmp rfl .nil)) (by unfold z6;rw [if_neg hbad]) (fun F h9=>trivial)
 ·
  have h0:Ql [Jm a.1 a.2,Jm b.1 b.2]=0:=by simpa using hc
  have h1:=YN h0
  have hoka:=YT h1.1
  have hokb:=YT h1.2
  refine QO<|QC ?_
  refine F6 (ι:=(Nat×Nat)×Sp×Sp) [] (fun i=>[(7,.pointer (some ⟨i.1.1,0,none⟩)),(8,.pointer (some ⟨i.1.2,0,none⟩))]) (fun i=>[(i.1.2,.cells [.int .i64 i.2.2.lo.n.s,.slice i.2.2.lo.n.q i.2.2.lo.n.n i.2.2.lo.n.cap,.int .i64 i.2.2.lo.d.s,.slice i.2.2.lo.d.q i.2.2.lo.d.n i.2.2.lo.d.cap,.int .i64 i.2.2.hi.n.s,.slice i.2.2.hi.n.q i.2.2.hi.n.n i.2.2.hi.n.cap,.int .i64 i.2.2.hi.d.s,.slice i.2.2.hi.d.q i.2.2.hi.d.n i.2.2.hi.d.cap].toArray 138 (0,0)),(i.1.1,.cells [.int .i64 i.2.1.lo.n.s,.slice i.2.1.lo.n.q i.2.1.lo.n.n i.2.1.lo.n.cap,.int .i64 i.2.1.lo.d.s,.slice i.2.1.lo.d.q i.2.1.lo.d.n i.2.1.lo.d.cap,.int .i64 i.2.1.hi.n.s,.slice i.2.1.hi.n.q i.2.1.hi.n.n i.2.1.hi.n.cap,.int .i64 i.2.1.hi.d.s,.slice i.2.1.hi.d.q i.2.1.hi.d.n i.2.1.hi.d.cap].toArray 138 (0,0)),(b3,.cells [tx b.1,tx b.2].toArray 24 (0,0)),(b2,.cells [tx a.1,tx a.2].toArray 24 (0,0))]) (fun i F=>ZO F i.2.1 (Jj a.1,Jj a.2)∧ZO F i.2.2 (Jj b.1,Jj b.2)) trivial ?_ ?_
  ·
   refine xD (r:=[0,1,2,3,4,5,6,7]) (.cons_cons _ (.cons_cons _ .slnil)) mixed (by kernel_rfl) rfl<|Ay 0 (by kernel_rfl) rfl rfl<|QK (QJ (vs:=[_,_]) rfl JU .u1 .h2 rfl)<|XJ<|Ay 2 (by kernel_rfl) rfl rfl<|QK (QJ (vs:=[_,_]) rfl JU .here .h2 rfl)<|XJ ?_
   refine u9 1 4 5 (by kernel_rfl) (by kernel_rfl) rfl rfl rfl rfl rfl rfl rfl rfl rfl ?_ ?_ ?_
   ·
    refine Qd rfl (fun w F hF h9=>KK hF h9.1.1.1.1 (hoka.1) (hoka.2.1) (ha)) (fun x19=>XJ ?_)
    refine u9 3 4 5 (by kernel_rfl) (by kernel_rfl) rfl rfl rfl rfl rfl rfl rfl rfl rfl ?_ ?_ ?_
    ·
     refine Qd rfl (fun w F hF h9=>KK hF h9.1.1.1.1.1 (hokb.1) (hokb.2.1) (hb)) (fun x21=>XJ ?_)
     refine E5 4 5 (by kernel_rfl) (by kernel_rfl) rfl rfl rfl rfl rfl rfl ?_ ?_
     ·
      refine ZH ZU (fun b7=>XJ<|Xg 5 (by kernel_rfl) (by kernel_rfl) rfl rfl rfl<|ZH ZU (fun b8=>XJ<|Xg 6 (by kernel_rfl) (by kernel_rfl) rfl rfl rfl<|JE (vs:=[_,_,_,_,_,_,_,_]) rfl rfl rfl Jq rfl .u1 (.cons _ (.cons_cons _ (.cons_cons _ .slnil))) (fun _ h=>h.1.1) .h8 wR<|XJ<|Xg 7 (by kernel_rfl) (by kernel_rfl) rfl rfl rfl<|JE (vs:=[_,_,_,_,_,_,_,_]) rfl rfl rfl Jq rfl .here (.cons _ (.cons_cons _ (.cons_cons _ .slnil))) (fun _ h=>h.1.1) .h8 wR<|XJ<|Y4 ?_))
      exact J0 (((b7,b8),x19,x21)) wL wG (fun F h9=>⟨⟨⟨⟨⟨h9.1.1.1.1.1.1,trivial⟩,trivial⟩,h9.1.1.1.2⟩,trivial⟩,⟨⟨⟨h9.1.2.1.1,h9.1.2.1.2⟩,⟨h9.1.2.2.1,h9.1.2.2.2⟩⟩,⟨⟨h9.2.1.1,h9.2.1.2⟩,⟨h9.2.2.1,h9.2.2.2⟩⟩⟩⟩)
     ·
      refine ZH ZU (fun b8=>XJ<|Xg 4 (by kernel_rfl) (by kernel_rfl) rfl rfl rfl<|ZH ZU (fun b7=>XJ<|Xg 6 (by kernel_rfl) (by kernel_rfl) rfl rfl rfl<|JE (vs:=[_,_,_,_,_,_,_,_]) rfl rfl rfl Jq rfl .here (.cons _ (.cons_cons _ (.cons_cons _ .slnil))) (fun _ h=>h.1.1) .h8 wR<|XJ<|Xg 7 (by kernel_rfl) (by kernel_rfl) rfl rfl rfl<|JE (vs:=[_,_,_,_,_,_,_,_]) rfl rfl rfl Jq rfl .u1 (.cons _ (.cons_cons _ (.cons_cons _ .slnil))) (fun _ h=>h.1.1) .h8 wR<|XJ<|Y4<|FC (aT _ _ _) ?_))
      exact J0 (((b7,b8),x19,x21)) wL wG (fun F h9=>⟨⟨⟨⟨⟨h9.1.1.1.1.1.1,trivial⟩,trivial⟩,h9.1.1.1.2⟩,trivial⟩,⟨⟨⟨h9.1.2.1.1,h9.1.2.1.2⟩,⟨h9.1.2.2.1,h9.1.2.2.2⟩⟩,⟨⟨h9.2.1.1,h9.2.1.2⟩,⟨h9.2.2.1,h9.2.2.2⟩⟩⟩⟩)
    ·
     refine ZH ZU (fun b7=>XJ ?_)
     refine E5 3 5 (by kernel_rfl) (by kernel_rfl) rfl rfl rfl rfl rfl rfl ?_ ?_
     ·
      refine Qd rfl (fun w F hF h9=>KK hF h9.1.1.1.1.1 (hokb.1) (hokb.2.1) (hb)) (fun x21=>XJ<|Xg 5 (by kernel_rfl) (by kernel_rfl) rfl rfl rfl<|ZH ZU (fun b8=>XJ<|Xg 6 (by kernel_rfl) (by kernel_rfl) rfl rfl rfl<|JE (vs:=[_,_,_,_,_,_,_,_]) rfl rfl rfl Jq rfl .u1 (.cons _ (.cons_cons _ (.cons_cons _ .slnil))) (fun _ h=>h.1.1) .h8 wR<|XJ<|Xg 7 (by kernel_rfl) (by kernel_rfl) rfl rfl rfl<|JE (vs:=[_,_,_,_,_,_,_,_]) rfl rfl rfl Jq rfl .here (.cons _ (.cons_cons _ (.cons_cons _ .slnil))) (fun _ h=>h.1.1) .h8 wR<|XJ<|Y4 ?_))
      exact J0 (((b7,b8),x19,x21)) wL wG (fun F h9=>⟨⟨⟨⟨⟨h9.1.1.1.1.1.1,trivial⟩,trivial⟩,h9.1.1.1.2⟩,trivial⟩,⟨⟨⟨h9.1.2.1.1,h9.1.2.1.2⟩,⟨h9.1.2.2.1,h9.1.2.2.2⟩⟩,⟨⟨h9.2.1.1,h9.2.1.2⟩,⟨h9.2.2.1,h9.2.2.2⟩⟩⟩⟩)
     ·
      refine ZH ZU (fun b8=>XJ<|Xg 3 (by kernel_rfl) (by kernel_rfl) rfl rfl rfl<|Qd rfl (fun w F hF h9=>KK hF h9.1.1.1.1.1 (hokb.1) (hokb.2.1) (hb)) (fun x21=>XJ<|Xg 6 (by kernel_rfl) (by kernel_rfl) rfl rfl rfl<|JE (vs:=[_,_,_,_,_,_,_,_]) rfl rfl rfl Jq rfl .u1 (.cons _ (.cons_cons _ (.cons_cons _ .slnil))) (fun _ h=>h.1.1) .h8 wR<|XJ<|Xg 7 (by kernel_rfl) (by kernel_rfl) rfl rfl rfl<|JE (vs:=[_,_,_,_,_,_,_,_]) rfl rfl rfl Jq rfl .here (.cons _ (.cons_cons _ (.cons_cons _ .slnil))) (fun _ h=>h.1.1) .h8 wR<|XJ<|Y4 ?_))
      exact J0 (((b7,b8),x19,x21)) wL wG (fun F h9=>⟨⟨⟨⟨⟨h9.1.1.1.1.1.1,trivial⟩,trivial⟩,h9.1.1.1.2⟩,trivial⟩,⟨⟨⟨h9.1.2.1.1,h9.1.2.1.2⟩,⟨h9.1.2.2.1,h9.1.2.2.2⟩⟩,⟨⟨h9.2.1.1,h9.2.1.2⟩,⟨h9.2.2.1,h9.2.2.2⟩⟩⟩⟩)
    ·
     refine ZH ZU (fun b8=>XJ ?_)
     refine E5 3 4 (by kernel_rfl) (by kernel_rfl) rfl rfl rfl rfl rfl rfl ?_ ?_
     ·
      refine Qd rfl (fun w F hF h9=>KK hF h9.1.1.1.1.1 (hokb.1) (hokb.2.1) (hb)) (fun x21=>XJ<|Xg 4 (by kernel_rfl) (by kernel_rfl) rfl rfl rfl<|ZH ZU (fun b7=>XJ<|Xg 6 (by kernel_rfl) (by kernel_rfl) rfl rfl rfl<|JE (vs:=[_,_,_,_,_,_,_,_]) rfl rfl rfl Jq rfl .here (.cons _ (.cons_cons _ (.cons_cons _ .slnil))) (fun _ h=>h.1.1) .h8 wR<|XJ<|Xg 7 (by kernel_rfl) (by kernel_rfl) rfl rfl rfl<|JE (vs:=[_,_,_,_,_,_,_,_]) rfl rfl rfl Jq rfl .u1 (.cons _ (.cons_cons _ (.cons_cons _ .slnil))) (fun _ h=>h.1.1) .h8 wR<|XJ<|Y4<|FC (aT _ _ _) ?_))
      exact J0 (((b7,b8),x19,x21)) wL wG (fun F h9=>⟨⟨⟨⟨⟨h9.1.1.1.1.1.1,trivial⟩,trivial⟩,h9.1.1.1.2⟩,trivial⟩,⟨⟨⟨h9.1.2.1.1,h9.1.2.1.2⟩,⟨h9.1.2.2.1,h9.1.2.2.2⟩⟩,⟨⟨h9.2.1.1,h9.2.1.2⟩,⟨h9.2.2.1,h9.2.2.2⟩⟩⟩⟩)
     ·
      refine ZH ZU (fun b7=>XJ<|Xg 3 (by kernel_rfl) (by kernel_rfl) rfl rfl rfl<|Qd rfl (fun w F hF h9=>KK hF h9.1.1.1.1.1 (hokb.1) (hokb.2.1) (hb)) (fun x21=>XJ<|Xg 6 (by kernel_rfl) (by kernel_rfl) rfl rfl rfl<|JE (vs:=[_,_,_,_,_,_,_,_]) rfl rfl rfl Jq rfl .here (.cons _ (.cons_cons _ (.cons_cons _ .slnil))) (fun _ h=>h.1.1) .h8 wR<|XJ<|Xg 7 (by kernel_rfl) (by kernel_rfl) rfl rfl rfl<|JE (vs:=[_,_,_,_,_,_,_,_]) rfl rfl rfl Jq rfl .u1 (.cons _ (.cons_cons _ (.cons_cons _ .slnil))) (fun _ h=>h.1.1) .h8 wR<|XJ<|Y4<|FC (aT _ _ _) ?_))
      exact J0 (((b7,b8),x19,x21)) wL wG (fun F h9=>⟨⟨⟨⟨⟨h9.1.1.1.1.1.1,trivial⟩,trivial⟩,h9.1.1.1.2⟩,trivial⟩,⟨⟨⟨h9.1.2.1.1,h9.1.2.1.2⟩,⟨h9.1.2.2.1,h9.1.2.2.2⟩⟩,⟨⟨h9.2.1.1,h9.2.1.2⟩,⟨h9.2.2.1,h9.2.2.2⟩⟩⟩⟩)
   ·
    refine ZH ZU (fun b7=>XJ ?_)
    refine E5 1 5 (by kernel_rfl) (by kernel_rfl) rfl rfl rfl rfl rfl rfl ?_ ?_
    ·
     refine Qd rfl (fun w F hF h9=>KK hF h9.1.1.1.1 (hoka.1) (hoka.2.1) (ha)) (fun x19=>XJ ?_)
     refine E5 3 5 (by kernel_rfl) (by kernel_rfl) rfl rfl rfl rfl rfl rfl ?_ ?_
     ·
      refine Qd rfl (fun w F hF h9=>KK hF h9.1.1.1.1.1 (hokb.1) (hokb.2.1) (hb)) (fun x21=>XJ<|Xg 5 (by kernel_rfl) (by kernel_rfl) rfl rfl rfl<|ZH ZU (fun b8=>XJ<|Xg 6 (by kernel_rfl) (by kernel_rfl) rfl rfl rfl<|JE (vs:=[_,_,_,_,_,_,_,_]) rfl rfl rfl Jq rfl .u1 (.cons _ (.cons_cons _ (.cons_cons _ .slnil))) (fun _ h=>h.1.1) .h8 wR<|XJ<|Xg 7 (by kernel_rfl) (by kernel_rfl) rfl rfl rfl<|JE (vs:=[_,_,_,_,_,_,_,_]) rfl rfl rfl Jq rfl .here (.cons _ (.cons_cons _ (.cons_cons _ .slnil))) (fun _ h=>h.1.1) .h8 wR<|XJ<|Y4 ?_))
      exact J0 (((b7,b8),x19,x21)) wL wG (fun F h9=>⟨⟨⟨⟨⟨h9.1.1.1.1.1.1,trivial⟩,trivial⟩,h9.1.1.1.2⟩,trivial⟩,⟨⟨⟨h9.1.2.1.1,h9.1.2.1.2⟩,⟨h9.1.2.2.1,h9.1.2.2.2⟩⟩,⟨⟨h9.2.1.1,h9.2.1.2⟩,⟨h9.2.2.1,h9.2.2.2⟩⟩⟩⟩)
     ·
      refine ZH ZU (fun b8=>XJ<|Xg 3 (by kernel_rfl) (by kernel_rfl) rfl rfl rfl<|Qd rfl (fun w F hF h9=>KK hF h9.1.1.1.1.1 (hokb.1) (hokb.2.1) (hb)) (fun x21=>XJ<|Xg 6 (by kernel_rfl) (by kernel_rfl) rfl rfl rfl<|JE (vs:=[_,_,_,_,_,_,_,_]) rfl rfl rfl Jq rfl .u1 (.cons _ (.cons_cons _ (.cons_cons _ .slnil))) (fun _ h=>h.1.1) .h8 wR<|XJ<|Xg 7 (by kernel_rfl) (by kernel_rfl) rfl rfl rfl<|JE (vs:=[_,_,_,_,_,_,_,_]) rfl rfl rfl Jq rfl .here (.cons _ (.cons_cons _ (.cons_cons _ .slnil))) (fun _ h=>h.1.1) .h8 wR<|XJ<|Y4 ?_))
      exact J0 (((b7,b8),x19,x21)) wL wG (fun F h9=>⟨⟨⟨⟨⟨h9.1.1.1.1.1.1,trivial⟩,trivial⟩,h9.1.1.1.2⟩,trivial⟩,⟨⟨⟨h9.1.2.1.1,h9.1.2.1.2⟩,⟨h9.1.2.2.1,h9.1.2.2.2⟩⟩,⟨⟨h9.2.1.1,h9.2.1.2⟩,⟨h9.2.2.1,h9.2.2.2⟩⟩⟩⟩)
    ·
     refine ZH ZU (fun b8=>XJ<|Xg 1 (by kernel_rfl) (by kernel_rfl) rfl rfl rfl<|Qd rfl (fun w F hF h9=>KK hF h9.1.1.1.1 (hoka.1) (hoka.2.1) (ha)) (fun x19=>XJ<|Xg 3 (by kernel_rfl) (by kernel_rfl) rfl rfl rfl<|Qd rfl (fun w F hF h9=>KK hF h9.1.1.1.1.1 (hokb.1) (hokb.2.1) (hb)) (fun x21=>XJ<|Xg 6 (by kernel_rfl) (by kernel_rfl) rfl rfl rfl<|JE (vs:=[_,_,_,_,_,_,_,_]) rfl rfl rfl Jq rfl .u1 (.cons _ (.cons_cons _ (.cons_cons _ .slnil))) (fun _ h=>h.1.1) .h8 wR<|XJ<|Xg 7 (by kernel_rfl) (by kernel_rfl) rfl rfl rfl<|JE (vs:=[_,_,_,_,_,_,_,_]) rfl rfl rfl Jq rfl .here (.cons _ (.cons_cons _ (.cons_cons _ .slnil))) (fun _ h=>h.1.1) .h8 wR<|XJ<|Y4 ?_)))
     exact J0 (((b7,b8),x19,x21)) wL wG (fun F h9=>⟨⟨⟨⟨⟨h9.1.1.1.1.1.1,trivial⟩,trivial⟩,h9.1.1.1.2⟩,trivial⟩,⟨⟨⟨h9.1.2.1.1,h9.1.2.1.2⟩,⟨h9.1.2.2.1,h9.1.2.2.2⟩⟩,⟨⟨h9.2.1.1,h9.2.1.2⟩,⟨h9.2.2.1,h9.2.2.2⟩⟩⟩⟩)
   ·
    refine ZH ZU (fun b8=>XJ ?_)
    refine E5 1 4 (by kernel_rfl) (by kernel_rfl) rfl rfl rfl rfl rfl rfl ?_ ?_
    ·
     refine Qd rfl (fun w F hF h9=>KK hF h9.1.1.1.1 (hoka.1) (hoka.2.1) (ha)) (fun x19=>XJ ?_)
     refine E5 3 4 (by kernel_rfl) (by kernel_rfl) rfl rfl rfl rfl rfl rfl ?_ ?_
     ·
      refine Qd rfl (fun w F hF h9=>KK hF h9.1.1.1.1.1 (hokb.1) (hokb.2.1) (hb)) (fun x21=>XJ<|Xg 4 (by kernel_rfl) (by kernel_rfl) rfl rfl rfl<|ZH ZU (fun b7=>XJ<|Xg 6 (by kernel_rfl) (by kernel_rfl) rfl rfl rfl<|JE (vs:=[_,_,_,_,_,_,_,_]) rfl rfl rfl Jq rfl .here (.cons _ (.cons_cons _ (.cons_cons _ .slnil))) (fun _ h=>h.1.1) .h8 wR<|XJ<|Xg 7 (by kernel_rfl) (by kernel_rfl) rfl rfl rfl<|JE (vs:=[_,_,_,_,_,_,_,_]) rfl rfl rfl Jq rfl .u1 (.cons _ (.cons_cons _ (.cons_cons _ .slnil))) (fun _ h=>h.1.1) .h8 wR<|XJ<|Y4<|FC (aT _ _ _) ?_))
      exact J0 (((b7,b8),x19,x21)) wL wG (fun F h9=>⟨⟨⟨⟨⟨h9.1.1.1.1.1.1,trivial⟩,trivial⟩,h9.1.1.1.2⟩,trivial⟩,⟨⟨⟨h9.1.2.1.1,h9.1.2.1.2⟩,⟨h9.1.2.2.1,h9.1.2.2.2⟩⟩,⟨⟨h9.2.1.1,h9.2.1.2⟩,⟨h9.2.2.1,h9.2.2.2⟩⟩⟩⟩)
     ·
      refine ZH ZU (fun b7=>XJ<|Xg 3 (by kernel_rfl) (by kernel_rfl) rfl rfl rfl<|Qd rfl (fun w F hF h9=>KK hF h9.1.1.1.1.1 (hokb.1) (hokb.2.1) (hb)) (fun x21=>XJ<|Xg 6 (by kernel_rfl) (by kernel_rfl) rfl rfl rfl<|JE (vs:=[_,_,_,_,_,_,_,_]) rfl rfl rfl Jq rfl .here (.cons _ (.cons_cons _ (.cons_cons _ .slnil))) (fun _ h=>h.1.1) .h8 wR<|XJ<|Xg 7 (by kernel_rfl) (by kernel_rfl) rfl rfl rfl<|JE (vs:=[_,_,_,_,_,_,_,_]) rfl rfl rfl Jq rfl .u1 (.cons _ (.cons_cons _ (.cons_cons _ .slnil))) (fun _ h=>h.1.1) .h8 wR<|XJ<|Y4<|FC (aT _ _ _) ?_))
      exact J0 (((b7,b8),x19,x21)) wL wG (fun F h9=>⟨⟨⟨⟨⟨h9.1.1.1.1.1.1,trivial⟩,trivial⟩,h9.1.1.1.2⟩,trivial⟩,⟨⟨⟨h9.1.2.1.1,h9.1.2.1.2⟩,⟨h9.1.2.2.1,h9.1.2.2.2⟩⟩,⟨⟨h9.2.1.1,h9.2.1.2⟩,⟨h9.2.2.1,h9.2.2.2⟩⟩⟩⟩)
    ·
     refine ZH ZU (fun b7=>XJ<|Xg 1 (by kernel_rfl) (by kernel_rfl) rfl rfl rfl<|Qd rfl (fun w F hF h9=>KK hF h9.1.1.1.1 (hoka.1) (hoka.2.1) (ha)) (fun x19=>XJ<|Xg 3 (by kernel_rfl) (by kernel_rfl) rfl rfl rfl<|Qd rfl (fun w F hF h9=>KK hF h9.1.1.1.1.1 (hokb.1) (hokb.2.1) (hb)) (fun x21=>XJ<|Xg 6 (by kernel_rfl) (by kernel_rfl) rfl rfl rfl<|JE (vs:=[_,_,_,_,_,_,_,_]) rfl rfl rfl Jq rfl .here (.cons _ (.cons_cons _ (.cons_cons _ .slnil))) (fun _ h=>h.1.1) .h8 wR<|XJ<|Xg 7 (by kernel_rfl) (by kernel_rfl) rfl rfl rfl<|JE (vs:=[_,_,_,_,_,_,_,_]) rfl rfl rfl Jq rfl .u1 (.cons _ (.cons_cons _ (.cons_cons _ .slnil))) (fun _ h=>h.1.1) .h8 wR<|XJ<|Y4<|FC (aT _ _ _) ?_)))
     exact J0 (((b7,b8),x19,x21)) wL wG (fun F h9=>⟨⟨⟨⟨⟨h9.1.1.1.1.1.1,trivial⟩,trivial⟩,h9.1.1.1.2⟩,trivial⟩,⟨⟨⟨h9.1.2.1.1,h9.1.2.1.2⟩,⟨h9.1.2.2.1,h9.1.2.2.2⟩⟩,⟨⟨h9.2.1.1,h9.2.1.2⟩,⟨h9.2.2.1,h9.2.2.2⟩⟩⟩⟩)
  ·intro i
   simp only [ae,af]
   refine wE<|QA (QI rfl Zk Qe)<|QA (QJ (vs:=[_,_,_,_]) rfl Qe .u1 .h4 rfl)<|QA (QI rfl Zk Qe)<|QA (QJ (vs:=[_,_,_,_]) rfl Qe .here .h4 rfl)<|QH rfl (fun w F hF h9=>SV (r:=Jj a.1) (s:=Jj b.1) hF ⟨h9.2.1.1.1,h9.2.1.1.2⟩ ⟨h9.2.2.1.1,h9.2.2.1.2⟩ (by have:=XE hoka.1;omega) (by have:=XE hokb.1;omega)) (fun _=>QA (QU rfl rfl rfl)<|wA rfl ?_)
   refine Qn (t:=28) rfl (fun hb28=>?_) (fun hb28=>?_)
   ·
    refine QL rfl rfl<|QA (QI rfl Zw Qe)<|QL rfl rfl<|QA (QJ (vs:=[_,_,_,_]) rfl Qe .u1 (.skip (.skip (.skip (.skip .h4)))) rfl)<|QL rfl rfl<|QA (QI rfl Zw Qe)<|QL rfl rfl<|QA (QJ (vs:=[_,_,_,_]) rfl Qe .here (.skip (.skip (.skip (.skip .h4)))) rfl)<|QL rfl rfl<|QH rfl (fun w F hF h9=>SV (r:=Jj a.2) (s:=Jj b.2) hF ⟨h9.1.2.1.2.1,h9.1.2.1.2.2⟩ ⟨h9.1.2.2.2.1,h9.1.2.2.2.2⟩ (by have:=XE hoka.2.1;omega) (by have:=XE hokb.2.1;omega)) (fun _=>QL rfl rfl<|QA (QU rfl rfl rfl)<|QA (Qi rfl rfl rfl)<|wB rfl<|wD rfl<|QS ?_)
    exact Ja (()) rfl (.tmp rfl (.tmp rfl .nil)) (by unfold z6;rw [if_pos h0];simp_all) (fun F h9=>trivial)
   ·
    refine QN rfl rfl rfl<|QN rfl rfl rfl<|QN rfl rfl rfl<|QN rfl rfl rfl<|QN rfl rfl rfl<|QN rfl rfl rfl<|QA (Qh rfl rfl rfl)<|wB rfl<|wD rfl<|QS ?_
    exact Ja (()) rfl (.tmp rfl (.tmp rfl .nil)) (by unfold z6;rw [if_pos h0];simp_all;intros;omega) (fun F h9=>trivial)
theorem G9 (x y:Rat):Wr x y≤0↔x≤y:=by
 unfold Wr
 by_cases h:x<y
 ·rw [if_pos h];exact⟨fun _=>Rat.le_of_lt h,fun _=>by decide⟩
 ·rw [if_neg h]
  by_cases e:x=y
  ·rw [if_pos e,e];exact⟨fun _=>Rat.le_refl,fun _=>by decide⟩
  ·rw [if_neg e];refine⟨fun k=>absurd k (by decide),fun k=>absurd (Rat.lt_of_le_of_ne k e) h⟩
theorem Li (x y:Rat):Wr x y≥0↔y≤x:=by
 unfold Wr
 by_cases h:x<y
 ·rw [if_pos h];exact⟨fun k=>absurd k (by decide),fun k=>absurd k (Rat.not_le.2 h)⟩
 ·rw [if_neg h]
  refine⟨fun _=>Rat.not_lt.1 h,fun _=>?_⟩
  split<;>decide
theorem vP (x y:Rat):Wr x y<0↔x<y:=by
 rw [← eN,← Li];omega
theorem Lh (x y:Rat):Wr x y>0↔y<x:=by
 rw [← eN,← G9];omega
theorem uQ (x y:Rat):Cy x y=if x≤y then x else y:=by
 unfold Cy;by_cases h:x≤y
 ·rw [if_pos h,if_pos ((G9 x y).2 h)]
 ·rw [if_neg h,if_neg fun k=>h ((G9 x y).1 k)]
theorem uR (x y:Rat):Cz x y=if y≤x then x else y:=by
 unfold Cz;by_cases h:y≤x
 ·rw [if_pos h,if_pos ((Li x y).2 h)]
 ·rw [if_neg h,if_neg fun k=>h ((Li x y).1 k)]
def qJ (a:List UInt8×List UInt8):Prop:=Jm a.1 a.2=0
def vS (a:List UInt8×List UInt8):Rat×Rat:=(Jj a.1,Jj a.2)
theorem qJ.v {a:List UInt8×List UInt8} (h:qJ a):xJ (vS a) = .agg #[tx a.1,tx a.2]:=by
 obtain ⟨h1,h2,_⟩:=YT h
 show Value.agg #[tx (JN (Jj a.1)),tx (JN (Jj a.2))]=_
 rw [← (X6 h1).1,← (X6 h2).1]
theorem qJ.sz {a:List UInt8×List UInt8} (h:qJ a):gO 2400 (vS a):=by
 obtain ⟨h1,h2,_⟩:=YT h
 exact⟨XE h1,XE h2⟩
theorem qJ.le {a:List UInt8×List UInt8} (h:qJ a):(vS a).1≤(vS a).2:=by
 obtain ⟨_,_,h3⟩:=YT h
 exact(G9 _ _).1 (Int.not_lt.1 h3)
theorem C7 (u:Nat) {k:Nat} (hk:0<k) (h:(aj u).length≤k):sz (u:Int)≤4*k:=by
 rw [Lib.decDigits_length] at h
 rw [XR,bH]
 have h1:¬ 10^k≤u:=fun e=>by have:=(SD (u:=u) hk).2 e;omega
 have h2:10^k≤16^k:=eL (by decide) _
 have h3:(16:Nat)^k=2^(4*k):=by rw [fv]
 rw [← h3]
 exact bm (Nat.lt_of_not_le h1) h2
theorem kj (z:Int) {k:Nat} (hk:0<k) (h:(X1 z).length≤k):sz z≤4*k:=by
 have e:sz z=sz (z.natAbs:Int):=by unfold sz;simp
 rw [e]
 refine C7 _ hk ?_
 rcases ew z 0 with g | g
 ·rw [YU g,aF] at h;omega
 ·rwa [J3 g] at h
theorem p6 (x:Rat) {k:Nat} (hk:0<k) (h:(JN x).length≤k):JL x≤4*k:=by
 unfold JL
 unfold JN at h
 split at h
 ·rename_i hd
  rw [hd]
  exact Nat.max_le.2 ⟨kj _ hk h,aq (show sz ((1:Nat):Int)≤1 by decide) (by omega)⟩
 ·rw [aN,aF] at h
  exact Nat.max_le.2 ⟨kj _ hk (by omega),C7 _ hk (by omega)⟩
theorem L3 {s:List UInt8} (h:Jg s=0) {k:Nat} (hk:0<k) (hl:s.length≤k):JL (Jj s)≤4*k :=
 p6 _ hk (by rw [← (X6 h).1];exact hl)
theorem gO.le {a:Rat×Rat} {k k':Nat} (h:gO k a) (hk:k≤k'):gO k' a:=⟨aq h.1 hk,aq h.2 hk⟩
section
variable {w:ak} {F:Gs} {a b:List UInt8×List UInt8}
theorem cI {p:(List UInt8×List UInt8)×Int} {r:Rat×Rat} (hF:Fits F w) (hp:p=V4 r) (hr:JL r.1≤400000∧JL r.2≤400000):QZ Tryz.prog 26 [.agg #[tx p.1.1,tx p.1.2],.int .i64 p.2,.int .i64 0,xJ r] w F (.bool true):=vY hF hp hr
def QBe (a:List UInt8×List UInt8) (n:Int):List UInt8×List UInt8:=if Ql [Jm a.1 a.2,MA n]=0 then(JN (Vo (vS a) n).1,JN (Vo (vS a) n).2) else([],[])
end
theorem QA6 {t:List UInt8} (hk:ptK t<t.length):(((t[ptK t]).toNat:Int)==46)=QAs t:=by
 unfold QAs;rw [decide_eq_true hk,X5 hk,fe];exact E2 rfl
structure PrJ (t:List UInt8) where
 j:Nat
 n:Ri
 d:Ri
 le:j≤(t.drop (ptK t+1)).length
def QAp (ss:List (List UInt8×List UInt8)):Int:=Ql (ss.map fun p=>Jm p.1 p.2)
theorem ku {w:ak} {F:Gs} {a:List UInt8} {d:Int} (hF:Fits F w) (hd:0≤d∧d≤1000):QZ Tryz.prog 126 [tx a,.int .i64 d] w F (.bool (Nk a d)):=by
 have hn:=qF a
 refine QT.intro (G:=fun F=>True) Tryz.func126 rfl (by rfl) rfl rfl hF (fun F' hF'=>trivial)<|wE<|wD rfl<|wF rfl<|QA (XF rfl E3)<|wA rfl<|QA (GF rfl rfl (by omega))<|QA (Qs rfl rfl (by omega))<|QA (QU rfl rfl rfl)<|wA rfl ?_
 refine Qn (t:=11) rfl (fun hb11=>?_) (fun hb11=>?_)
 ·
  have hl:a.length≤1000000:=by have h1:=wI hb11;omega
  refine QL rfl rfl<|wA rfl<|QL rfl rfl<|QH rfl (fun w F hF hT=>TO hF (hl)) (fun _=>QL rfl rfl<|QA (QU rfl rfl rfl)<|QA (Qi rfl rfl rfl)<|wA rfl ?_)
  refine Qn (t:=16) rfl (fun hb16=>?_) (fun hb16=>?_)
  ·
   refine QL rfl rfl<|wA rfl<|QL rfl rfl<|QH rfl (fun w F hF h9=>yJ hF (by omega)) (fun _=>QL rfl rfl<|QH rfl (fun w F hF h9=>yM hF ) (fun _=>QL rfl rfl<|QA (XF rfl E3)<|QL rfl rfl<|wA rfl<|QL rfl rfl<|QA (QU rfl rfl rfl)<|QA (Qi rfl rfl rfl)<|wA rfl ?_))
   refine Qn (t:=24) rfl (fun hb24=>?_) (fun hb24=>?_)
   ·
    refine QL rfl rfl<|wA rfl<|QL rfl rfl<|QH rfl (fun w F hF h9=>yK hF (by omega)) (fun _=>QL rfl rfl<|QA (XF rfl E3)<|QL rfl rfl<|wA rfl<|QL rfl rfl<|QA (QU rfl rfl rfl)<|QA (Qi rfl rfl rfl)<|wD rfl<|QS ?_)
    exact wH rfl rfl ((congrArg ab (by have h1:=wI hb11;simp [Nk,h1];simp at hb16 hb24;simp [hb16,hb24]))) (fun F h9=>trivial)
   ·
    refine QN rfl rfl rfl<|QN rfl rfl rfl<|QN rfl rfl rfl<|QN rfl rfl rfl<|QN rfl rfl rfl<|QA (Qh rfl rfl rfl)<|wD rfl<|QS ?_
    exact wH rfl rfl ((congrArg ab (by have h1:=wI hb11;simp [Nk,h1];simp at hb16 hb24;simp [hb16];intro g;omega))) (fun F h9=>trivial)
  ·
   refine QN rfl rfl rfl<|QN rfl rfl rfl<|QN rfl rfl rfl<|QN rfl rfl rfl<|QN rfl rfl rfl<|QN rfl rfl rfl<|QA (Qh rfl rfl rfl)<|wA rfl<|QN rfl rfl rfl<|QN rfl rfl rfl<|QN rfl rfl rfl<|QN rfl rfl rfl<|QN rfl rfl rfl<|QA (Qh rfl rfl rfl)<|wD rfl<|QS ?_
   exact wH rfl rfl ((congrArg ab (by have h1:=wI hb11;simp at hb16;simp [Nk,h1,hb16]))) (fun F h9=>trivial)
 ·
  refine QN rfl rfl rfl<|QN rfl rfl rfl<|QN rfl rfl rfl<|QA (Qh rfl rfl rfl)<|wA rfl<|QN rfl rfl rfl<|QN rfl rfl rfl<|QN rfl rfl rfl<|QN rfl rfl rfl<|QN rfl rfl rfl<|QN rfl rfl rfl<|QA (Qh rfl rfl rfl)<|wA rfl<|QN rfl rfl rfl<|QN rfl rfl rfl<|QN rfl rfl rfl<|QN rfl rfl rfl<|QN rfl rfl rfl<|QA (Qh rfl rfl rfl)<|wD rfl<|QS ?_
  exact wH rfl rfl ((congrArg ab (by simp [Nk,hb11]))) (fun F hT=>trivial)
theorem qm {w:ak} {F:Gs} {q:Option Addr} {n c:Nat} {m d:Int} {l:List (List UInt8×List UInt8)} (hF:Fits F w) (hR:Q6 F q n 2 (l.flatMap xU)) (hl:l.length=n) (hd:0≤d∧d≤1000) (hn:n≤1000000):QZ Tryz.prog 28 [.slice q n c,.int .i64 m,.int .i64 d] w F (.bool (decide ((n:Int)≤m)&&l.all (CU d))):=by
 have hln:=hl
 refine QT.intro (G:=fun F=>Q6 F q n 2 (l.flatMap xU)) Tryz.func28 rfl (by rfl) rfl rfl hF (fun F' hF'=>hR.le hF')<|wE<|wD rfl<|QG<|wF rfl<|QA (Qj rfl GC)<|wA rfl<|QA (QU rfl rfl rfl)<|QE<|QC ?_
 refine QQ rfl (fun hc=>?_) (fun hc=>?_)
 ·
  have hg:=wI hc
  refine wE<|wD rfl<|QS ?_
  exact wH rfl rfl (congrArg ab (by have h1:decide ((n:Int)≤m)=false:=decide_eq_false (by omega);rw [h1];rfl)) (fun F hR=>trivial)
 ·
  have hg:=wJ hc
  refine QO<|QC<|QG<|wE<|wD rfl<|QX<|Zc (ι:=Pa l (CU d)) [(0,_),(2,_)] (fun i=>[(7,.int .i64 ((i.i:Nat):Int))]) (fun i=>l.length - i.i) (Pa.start _ _) wL wK (fun i=>?_)
  simp only [ae,af]
  refine QG<|wF rfl<|wA rfl<|QA (Qj rfl GC)<|QA (QU rfl rfl rfl)<|QE<|QC ?_
  refine QQ rfl (fun hc=>?_) (fun hc=>?_)
  ·
   have hi:i.i<l.length:=by have:=wI hc;omega
   refine QO<|QC<|QG<|QX ?_
   refine Kz [(0,_),(2,_),(7,_)] [(49,.bool (!CU d (el l i.i)))] wM ?_ ?_
   ·
    refine JV wG mixed (by kernel_rfl)<|QK (QD rfl)<|QK (QD rfl)<|QK (JH (n:=n) (i.i) (fun F hR=>hR) rfl rfl GC JU (by omega))<|QK (QI rfl WK Jo)<|QK (JQ (n:=n) ((i.i)*2+0) (fun F hR=>hR) (by omega) rfl Jo (Jy (f:=xU) (l:=l) Rl (by omega) rfl))<|QK (QD rfl)<|Qd rfl (fun w F hF hR=>ku hF hd) (fun _=>QK (Yc rfl)<|QK (QD rfl) ?_)
    refine Wu (t:=26) rfl (fun hb26=>?_) (fun hb26=>?_)
    ·
     refine JP rfl rfl rfl<|JP rfl rfl rfl<|JP rfl rfl rfl<|JP rfl rfl rfl<|JP rfl rfl rfl<|JP rfl rfl rfl<|JP rfl rfl rfl<|JP rfl rfl rfl<|QK (Qi rfl rfl rfl)<|QK (QD rfl)<|JP rfl rfl rfl<|JP rfl rfl rfl<|JP rfl rfl rfl<|JP rfl rfl rfl<|JP rfl rfl rfl<|JP rfl rfl rfl<|JP rfl rfl rfl<|JP rfl rfl rfl<|JP rfl rfl rfl<|JP rfl rfl rfl<|JP rfl rfl rfl<|JP rfl rfl rfl<|QK (Qi rfl rfl rfl)<|Q3 ?_
     exact ZI ⟨rfl,rfl,rfl,(congrArg (fun b=>some (ab b)) (by simp at hb26;simp [CU,hb26])),trivial⟩ wG (fun _ h=>h.1)
    ·
     refine Ji rfl rfl<|QK (QD rfl)<|Ji rfl rfl<|QK (QD rfl)<|Ji rfl rfl<|QK (JH (n:=n) (i.i) (fun F hR=>hR) rfl rfl GC JU (by omega))<|Ji rfl rfl<|QK (QI rfl Wh Jo)<|Ji rfl rfl<|QK (JQ (n:=n) ((i.i)*2+1) (fun F hR=>hR) (by omega) rfl Jo (Jy (f:=xU) (l:=l) Rl (by omega) rfl))<|Ji rfl rfl<|QK (QD rfl)<|Ji rfl rfl<|Qd rfl (fun w F hF h9=>ku hF hd) (fun _=>Ji rfl rfl<|QK (Yc rfl)<|QK (Qh rfl rfl rfl)<|QK (QD rfl) ?_)
     refine Wu (t:=36) rfl (fun hb36=>?_) (fun hb36=>?_)
     ·
      refine JP rfl rfl rfl<|JP rfl rfl rfl<|JP rfl rfl rfl<|JP rfl rfl rfl<|JP rfl rfl rfl<|JP rfl rfl rfl<|JP rfl rfl rfl<|JP rfl rfl rfl<|JP rfl rfl rfl<|JP rfl rfl rfl<|JP rfl rfl rfl<|JP rfl rfl rfl<|QK (Qi rfl rfl rfl)<|Q3 ?_
      exact ZI ⟨rfl,rfl,rfl,(congrArg (fun b=>some (ab b)) (by simp at hb26 hb36;simp [CU,hb26,hb36])),trivial⟩ wG (fun _ h=>h.1.1)
     ·
      refine Ji rfl rfl<|QK (QD rfl)<|Ji rfl rfl<|QK (QD rfl)<|Ji rfl rfl<|QK (JH (n:=n) (i.i) (fun F hR=>hR) rfl rfl GC JU (by omega))<|Ji rfl rfl<|QK (QI rfl WK Jo)<|Ji rfl rfl<|QK (JQ (n:=n) ((i.i)*2+0) (fun F hR=>hR) (by omega) rfl Jo (Jy (f:=xU) (l:=l) Rl (by omega) rfl))<|Ji rfl rfl<|QK (QD rfl)<|Ji rfl rfl<|QK (QD rfl)<|Ji rfl rfl<|QK (JH (n:=n) (i.i) (fun F hR=>hR) rfl rfl GC JU (by omega))<|Ji rfl rfl<|QK (QI rfl Wh Jo)<|Ji rfl rfl<|QK (JQ (n:=n) ((i.i)*2+1) (fun F hR=>hR) (by omega) rfl Jo (Jy (f:=xU) (l:=l) Rl (by omega) rfl))<|Ji rfl rfl<|Qd rfl (fun w F hF h9=>kz hF (Lg (by simpa using hb26)) (Lg (by simpa using hb36))) (fun _=>Ji rfl rfl<|QK (QU rfl rfl rfl)<|QK (Qh rfl rfl rfl) ?_)
      refine Q3 ?_
      exact ZI ⟨rfl,rfl,rfl,(congrArg (fun b=>some (ab b)) (by simp at hb26 hb36;simp [CU,hb26,hb36])),trivial⟩ wG (fun _ h=>h.1.1.1)
   ·
    simp only [ae,af]
    refine QQ rfl (fun hc=>?_) (fun hc=>?_)
    ·
     refine wE<|wD rfl<|QS ?_
     repeat (first | refine JC ?_ | refine Q5 ?_)
     exact wH rfl rfl (congrArg ab (by rw [i.hit hi (by simpa using hc),Bool.and_false])) (fun F hR=>trivial)
    ·
     refine QO<|Qk<|QC<|QB<|wA rfl<|QA (Qs rfl rfl (by omega))<|wB rfl<|QE ?_
     exact Qo (i.next hi (by simpa using hc)) (by show l.length - (i.i+1)<l.length - i.i;omega) wM wG (fun F h=>h)
  ·
   have hi:l.length≤i.i:=by have:=wJ hc;omega
   refine Qz ?_
   repeat (first | refine Qb ?_ | refine QV (by rfl) ?_)
   refine Qc<|QC<|wE<|wD rfl<|QS ?_
   exact wH rfl rfl (congrArg ab (by rw [i.stop hi];have h1:decide ((n:Int)≤m)=true:=decide_eq_true (by omega);rw [h1];rfl)) (fun F hR=>trivial)
theorem GA (r:Rat):Jj (JN r)=r:=by
 unfold Jj JN
 by_cases h:r.den=1
 ·rw [if_pos h,RR (G3 _)]
  dsimp only
  rw [if_neg (by decide),YS]
  have:=Rat.mkRat_self r
  rw [h,Rat.mkRat_one] at this
  exact this
 ·rw [if_neg h,DB (G3 _)]
  dsimp only
  rw [if_pos rfl,YS,XI]
  exact Rat.mkRat_self r
theorem kG {n:Nat} {l:List UInt8} (h:JA l≠n):¬ aj n=l:=fun e=>h (by rw [← e,XI])
theorem RU {r:Rat} (h:XN r=false):Jg (JN r)=0:=by
 unfold XN Br at h
 rw [aR] at h
 have h1:=wJ h.1
 have h2:=wJ h.2
 have ln:¬ 600<(aj r.num.natAbs).length:=fun e=>h1 ((SH _).1 e)
 have ld:¬ 600<(aj r.den).length:=fun e=>h2 (by rw [bH];exact(SH _).1 e)
 have hneg:(az (X1 r.num) [45]&&aj r.num.natAbs==[48])=false:=by
  by_cases g:r.num<0
  ·have:¬ aj r.num.natAbs=[48]:=kG (by show 0≠_;omega)
   rw [beq_false_of_ne this,Bool.and_false]
  ·rw [J3 (by omega),Kq (Jb _)];rfl
 unfold Jg JN
 by_cases hd:r.den=1
 ·rw [if_pos hd,RR (G3 _)]
  dsimp only
  unfold W7 Us
  rw [V8,Uy,hneg,decide_eq_false ln]
  simp
 ·rw [if_neg hd,DB (G3 _)]
  dsimp only
  unfold W7 Us
  have h0:¬ aj r.den=[48]:=kG (by show 0≠_;have:=r.den_nz;omega)
  have h9:¬ aj r.den=[49]:=kG (by show 1≠_;omega)
  have hg:bh r.num.natAbs r.den=1:=r.reduced
  rw [V8,Uy,Uy,hneg,decide_eq_false ln,decide_eq_false ld,XI,XI,hg,beq_false_of_ne h0,beq_false_of_ne h9]
  simp
theorem Y9 {r:Rat} {k:Nat} (h:JL r≤k) (hk:k≤1800):XN r=false:=by
 unfold XN Br
 have a:∀ z:Int,sz z≤k→decide (lim≤z.natAbs)=false:=fun z hz=>by
  have h1:=(XR z 1800).1 (by omega)
  have h2:=Fh
  refine decide_eq_false fun e=>?_
  exact absurd (Nat.lt_trans (eQ e h1) h2) (Nat.lt_irrefl _)
 rw [a _ (aq (Jl r) h),a _ (aq (Jf r) h)];rfl
section
variable {P:ei} {N:Nat} {m:Sl} {Y:ak→Prop} {ty:aK}
theorem QAg {T e:aK} {x:bV} {lo:Option bV} {vl:Option aL} {q:Option Addr} {n c sz:Nat} {g:Bool} (l:Nat) (hx:ev m x=some (.slice q n c)) (el:Uq m lo=some vl) (hl:vl=some (.int .i64 (l:Int))) (hT:BM P T=some e) (hs:YJ P e=some (g,sz)) (hln:l≤n) (hc:n≤c) :
  Qt P N m Y (.slice T x lo none none) ty (.slice (if c=l then q else q.map fun a=>a.add (l*sz)) (n - l) (c - l)):=fun a w _ _ _ _ ha _=>by
 subst hl
 have hlc:l≤c:=aq hln hc
 have hrun:(fi T (.slice q n c) (some (.int .i64 (l:Int))) none none).run P w = .ok (.slice (if c=l then q else q.map fun a=>a.add (l*sz)) (n - l) (c - l)) w:=by
  simp [fi,run_underlying (Q8 hT),eM,eR,asIntOf,hc,hln,hlc,Z2 hs]
 simp [execOp,ha.ev hx,ha.Uq el,fb,run_underlying (Q8 hT),hrun]
end
theorem Q6.drop {F:Gs} {q:Option Addr} {n sz c:Nat} {cs:List aL} (h:Q6 F q n sz cs) (hc:n≤c) (l:Nat):Q6 F (if c=l then q else q.map fun a=>a.add (l*sz)) (n - l) sz (cs.drop (l*sz)):=by
 refine⟨by rw [aI,h.1,Nat.sub_mul],fun h0=>?_⟩
 obtain ⟨b,off,arr,T,e1,e2,e3⟩:=h.2 (by omega)
 subst e1
 rw [if_neg (by omega)]
 refine⟨b,off+l*sz,arr,T,by rw [Option.map_some,Kt],e2,fun j u hu=>?_⟩
 rw [ff]
 rw [List.getElem?_drop] at hu
 exact e3 _ u hu
def uu (P:List Tm) (i:Nat) (k:List Int):Bool:=decide (i<P.length)&&decide ((el P i).2=k)
def plJ (P:List Tm) (i:Nat) (k:List Int):Nat:=if uu P i k=true then i+1 else i
def plS (P:List Tm) (i:Nat) (t:Tm):Rat:=if uu P i t.2=true then(el P i).1+t.1 else t.1
theorem Mj (P:List Tm):(ZQ P).length=P.length:=by simp [ZQ]
theorem kg {ps:List V5} {P:List Tm} (h:J2 ps=ZQ P):ps.length=P.length:=by
 have:=congrArg eB h
 rwa [Ve,Mj] at this
theorem gR (r:Rat):(JN r==[48])=decide (r=0):=by
 rw [aC,beq_iff_eq,decide_eq_true_eq]
 constructor
 ·intro h
  have e:JN (0:Rat)=[48]:=by decide +kernel
  have h1:=congrArg Jj (h.trans e.symm)
  rwa [GA,GA] at h1
 ·rintro rfl;decide +kernel
structure PlJ (ps:List V5) (P:List Tm) (k:List Int) where
 i:Nat
 v:aL
 ob:List (Nat×Obj)
 le:i≤ps.length
 hr:Qx 122 2 v i ((ps.take i).flatMap Kl) ob
 hb:∀ x∈P.take i,before x.2 k=true
structure PlE (ps:List V5) (P:List Tm) (k:List Int) extends PlJ ps P k where
 stop:i<P.length→before (el P i).2 k=false
theorem YR.QBF {F:Gs} {s:Sr} {ts:List V5} {L:List Tm} (h:YR F s ts (ZQ L)):s.n=L.length:=by
 rw [← h.2.2.2.2];exact kg h.2.2.1
structure NoJ (n:Nat) where
 i:Nat
 c:KG
 le:i≤n
structure OtJ (g:List Tm→List Tm) (L:List Tm) where
 i:Nat
 v:aL
 ob:List (Nat×Obj)
 out:List V5
 le:i≤L.length
 hr:Qx 122 2 v out.length (out.flatMap Kl) ob
 ho:J2 out=ZQ (g (L.take i))
 hl:out.length≤i
def uC (y:Rat) (l:List Tm):List Tm:=l.map fun t=>(y*t.1,t.2)
theorem ze:∀ {l:List Int},(∀ k∈l,0≤k)→Ks l≤12→l.sum≤Ks l∧0≤Ks l
 |[],_,_=>⟨aW _,aW _⟩
 |x::l,h,hc=>by
  have h0:=h x (ai ..)
  have e:Ks (x::l)=(if 13<x then 13 else x)+Ks l:=rfl
  have h2:0≤Ks l:=(BJ l fun k hk=>h k (av _ hk)).1
  rw [e] at hc ⊢
  have hx:¬ 13<x:=by intro g;rw [if_pos g] at hc;omega
  rw [if_neg hx] at hc ⊢
  have ih:=ze (l:=l) (fun k hk=>h k (av _ hk)) (by omega)
  rw [bG]
  omega
theorem QAX {f:List UInt8} {l:List Int} {v:Int} (h:Z9 f l v=0):(l.length:Int)=v+1∧(∀ k∈l,0≤k)∧l.sum≤12∧Jg f=0:=by
 unfold Z9 at h
 split at h
 ·omega
 ·rename_i h1
  split at h
  ·omega
  ·rename_i h2
   have h3:=YN h
   have hn:∀ k∈l,0≤k:=fun k hk=>by
    rcases ew k 0 with g | g
    ·exact absurd (List.any_eq_true.2 ⟨k,hk,decide_eq_true g⟩) h2
    ·exact g
   have hc:Ks l≤12:=by
    have:=h3.1
    split at this
    ·omega
    ·rename_i g;simpa using g
   have:=ze hn hc
   exact⟨by omega,hn,by omega,h3.2⟩
theorem uU {p:Pt} (h:de p=true):∀ x∈p,x.2.length≤30∧x.1.length≤20:=fun x hx=>by
 unfold de at h
 rw [bL] at h
 rw [← bR,eT] at h
 by_cases g:x.2.length≤30∧x.1.length≤20
 ·exact g
 ·exact absurd ⟨x,hx,by simp;omega⟩ h
theorem dc {p:Pt} (h:yp p=true):(p.length≤8∨64<p.length∧p.length≤70)∧∀ x∈p,x.2.length≤30∧x.1.length≤20:=by
 unfold yp at h
 split at h
 ·cases h
 ·rename_i g
  refine⟨?_,uU h⟩
  simp at g
  omega
theorem uc {l:List Tm} (h:Canon l):l.any (fun t=>decide (t.2.sum>12))=decide (Fs l>12):=by
 cases l with
 |nil=>simp [Fs]
 |cons t l =>
  have hb:=(List.pairwise_cons.1 h.C8).1
  show(t::l).any _=decide (t.2.sum>12)
  rw [aC,eT,decide_eq_true_eq]
  constructor
  ·rintro ⟨x,hx,hd⟩
   rw [decide_eq_true_eq] at hd
   rcases List.mem_cons.1 hx with rfl | hx
   ·exact hd
   ·have:=hb x hx
    unfold before at this
    rw [Bool.or_eq_true,aZ,decide_eq_true_eq,decide_eq_true_eq] at this
    omega
  ·intro hd
   exact⟨t,ai,by rw [decide_eq_true_eq];exact hd⟩
theorem uH {l:List Tm} (h:Canon l):qj (ZQ l)=GL l:=by
 have e1:(ZQ l).any (fun x=>decide (x.2.sum>12))=decide (Fs l>12):=by
  rw [← uc h];unfold ZQ;rw [ef];rfl
 have e2:(ZQ l).any (fun x=>W5 x.1 != 0)=WH l:=by
  unfold ZQ WH
  rw [ef]
  refine congrArg (fun f=>l.any f) (funext fun t=>?_)
  show(W5 (JN t.1) != 0)=XN t.1
  rw [Iq];cases XN t.1<;>rfl
 unfold qj GL
 rw [e1,e2,Mj]
 by_cases a:Fs l>12
 ·simp [a,Ql]
 ·by_cases b:(l.length:Int)>64
  ·simp [a,b,Ql]
  ·cases c:WH l<;>simp [a,b,Ql]
theorem dJ {l:List Tm} (h:Canon l):IX (H8 l) (GL l) 0 (ZQ l)=true:=by
 unfold IX
 rw [if_pos rfl,uH h]
 unfold H8
 by_cases e:GL l=0
 ·rw [if_pos e,if_pos e,e];simp
 ·rw [if_neg e,if_neg e];simp
theorem uL {d:Int} (h:d≠0) (w:Pt):IX [] d d w=true:=by
 unfold IX;rw [if_neg h];simp
theorem dD {l:List Tm} {x:List UInt8×List Int} (h:x∈H8 l):∃ t∈l,x=(JN t.1,t.2):=by
 unfold H8 at h
 split at h
 ·unfold ZQ at h;obtain ⟨t,ht,rfl⟩:=List.mem_map.1 h;exact⟨t,ht,rfl⟩
 ·cases h
theorem dE (l:List Tm):(H8 l).length≤l.length:=by
 unfold H8;split
 ·rw [Mj];exact ay _
 ·exact aA _
section
variable {w:ak} {F:Gs}
theorem QAY {c d:KG} {l:List Tm} (hF:Fits F w) (hC:YR F c.1 c.2 (H8 l)) (hD:YR F d.1 d.2 (ZQ l)) (hc:Canon l) (hp:∀ t∈l,PW t.2∧JL t.1≤100000000) (hl:l.length≤1000000):QZ Tryz.prog 64 [c.1.v,.int .i64 (GL l),.int .i64 0,d.1.v] w F (.bool true):=by
 have lc:c.2.length≤1000000:=by have:=dE l;rw [← hC.2.2.1,Ve] at this;omega
 have ld:d.2.length≤1000000:=by rw [kg hD.2.2.1];exact hl
 have h:=vL (q:=c.1.q) (n:=c.1.n) (cap:=c.1.cap) (q2:=d.1.q) (n2:=d.1.n) (cap2:=d.1.cap) (a:=c.2) (b:=d.2) (e:=GL l) (d:=0) hF hC.1 hC.2.1 hD.1 hD.2.1 hC.2.2.2.2 hD.2.2.2.2
  (fun t ht=>by
   have hm:(t.f,t.k)∈H8 l:=by rw [← hC.2.2.1];exact List.mem_map.2 ⟨t,ht,rfl⟩
   obtain ⟨x,hx,e⟩:=dD hm
   have:=(hp x hx).1.2
   have e2:t.k=x.2:=(bD e).2
   rw [e2];omega)
  (fun t ht=>by
   have hm:(t.f,t.k)∈ZQ l:=by rw [← hD.2.2.1];exact List.mem_map.2 ⟨t,ht,rfl⟩
   unfold ZQ at hm
   obtain ⟨x,hx,e⟩:=List.mem_map.1 hm
   have e1:=(bD e).1
   have e2:=(bD e).2
   have:=hp x hx
   exact⟨by rw [← e1];have:=V6 x.1;omega,by rw [← e2];exact this.1⟩) lc ld
 rw [hC.2.2.1,hD.2.2.1,dJ hc] at h
 exact h
theorem QAk {c:KG} {e d:Int} {q:Option Addr} {n cap:Nat} {ds:List V5} {p:Pt} (hF:Fits F w) (hC:YR F c.1 c.2 p) (h0:p=[]) (he:e=d) (hd:d≠0) (hR:Q6 F q n 2 (ds.flatMap Kl)) (hA:Zx F ds) (hn:ds.length=n) (hf:∀ t∈ds,t.f.length≤1000000000∧PW t.k) (hl:n≤1000000):QZ Tryz.prog 64 [c.1.v,.int .i64 e,.int .i64 d,.slice q n cap] w F (.bool true):=by
 subst h0 he
 have hc2:c.2=[]:=by have:=hC.2.2.1;unfold J2 at this;exact List.map_eq_nil_iff.1 this
 have h:=vL (q:=c.1.q) (n:=c.1.n) (cap:=c.1.cap) (q2:=q) (n2:=n) (cap2:=cap) (a:=c.2) (b:=ds) (e:=e) (d:=e) hF hC.1 hC.2.1 hR hA hC.2.2.2.2 hn (fun t ht=>by rw [hc2] at ht;cases ht) hf (by rw [hc2];decide) (by omega)
 rw [hC.2.2.1,uL hd] at h
 exact h
end
theorem xN {p:Pt} (h:∀ x∈p,Jg x.1=0):p=ZQ (Q9 p):=by
 unfold ZQ Q9
 rw [ee]
 induction p with
 |nil=>rfl
 |cons x p ih =>
  rw [aS,← ih fun y hy=>h y (av _ hy)]
  show x::p=(JN (Jj x.1),x.2)::p
  rw [← (X6 (h x ai)).1]
def Ut (F:Gs) (x:KG) (b:Int) (l:List Tm):Prop:=YR F x.1 x.2 (J2 x.2)∧(∀ t∈x.2,t.f.length≤1000000000∧PW t.k)∧x.1.n≤1000000∧(b=0→J2 x.2=ZQ l)
theorem Ut.le {F F':Gs} {x:KG} {b:Int} {l:List Tm} (h:Ut F x b l) (k:Gs.le F F'):Ut F' x b l:=⟨h.1.le k,h.2⟩
theorem Ut.none {F:Gs} {b:Int} {l:List Tm} (h:b≠0):Ut F (⟨none,0,0⟩,[]) b l:=⟨YR.nil F,fun _ h=>(by cases h),aA _,fun e=>absurd e h⟩
theorem Ut.LY {F:Gs} {x:KG} {b b':Int} {l l':List Tm} (h:Ut F x b l) (k:b'≠0):Ut F x b' l':=⟨h.1,h.2.1,h.2.2.1,fun e=>absurd e k⟩
theorem Ut.of {F:Gs} {x:KG} {b:Int} {l:List Tm} (h:YR F x.1 x.2 (ZQ l)) (hp:∀ t∈l,PW t.2∧JL t.1≤100000000) (hl:l.length≤1000000):Ut F x b l :=
 ⟨⟨h.1,h.2.1,rfl,h.2.2.2⟩,fun t ht=>by
  have hm:(t.f,t.k)∈ZQ l:=by rw [← h.2.2.1];exact List.mem_map.2 ⟨t,ht,rfl⟩
  unfold ZQ at hm
  obtain ⟨y,hy,e⟩:=List.mem_map.1 hm
  have e1:=(bD e).1
  have e2:=(bD e).2
  have:=hp y hy
  exact⟨by rw [← e1];have:=V6 y.1;omega,by rw [← e2];exact this.1⟩,by rw [h.QBF];exact hl,fun _=>h.2.2.1⟩
theorem vZ {y:Rat} {l:List Tm} (h:Canon l):Canon (KI y l)∧Jp (uC y l)=KI y l:=by
 unfold KI
 by_cases e:y=0
 ·rw [if_pos e,e]
  refine⟨Canon.nil,?_⟩
  have:KB (uC 0 l) []:=by
   unfold uC
   clear h
   induction l with
   |nil=>exact KB.refl _
   |cons t l ih =>
    rw [aS,aO]
    exact(eqv_zero _ _).trans ih
  rw [EJ this];rfl
 ·rw [if_neg e]
  have hs:uC y l=l.map fun t=>(t.1*y,t.2):=eF fun t _=>by rw [ek]
  have hC:Canon (l.map fun t=>((t.1*y,t.2):Tm)):=⟨List.pairwise_map.2 h.C8,fun t ht=>by
   obtain ⟨u,hu,rfl⟩:=List.mem_map.1 ht
   intro z
   rcases Rat.mul_eq_zero.1 z with z | z
   ·exact h.nz u hu z
   ·exact e z⟩
  exact⟨hC,by rw [hs];exact WE hC⟩
structure Cp (p:Pt) (v:Int):Prop where
 hv:0≤v∧v≤24
 ok:Yv p v
 len:p.length≤8
 txt:p=ZQ (Q9 p)
 sz:∀ t∈Q9 p,JL t.1≤80
 wp:∀ t∈Q9 p,t.2.length=(v+1).toNat∧PW t.2
theorem Cp.of {p:Pt} {v:Int} (hv:Zr v=0) (h:XZ p v=0) (hl:yp p=true):Cp p v:=by
 have ho:=KU h
 have hv2:=(Kj v).1 hv
 obtain ⟨h5,h6⟩:=dc hl
 have hck:∀ x∈p,Jg x.1=0:=fun x hx=>(YI (ho.term x hx)).2.2.2
 refine⟨hv2,ho,by have:=ho.len;omega,xN hck,fun t ht=>?_,fun t ht=>⟨by have:=ho.wide t ht;omega,ho.pw hv2.2 t ht⟩⟩
 unfold Q9 at ht
 obtain ⟨x,hx,rfl⟩:=List.mem_map.1 ht
 exact L3 (hck x hx) (k:=20) (by decide) (h6 x hx).2
theorem Cp.QAf {p:Pt} {v:Int} (h:Cp p v):(Q9 p).length≤8:=by unfold Q9;rw [aG];exact h.len
theorem Cp.Zh {p:Pt} {v:Int} (h:Cp p v):YtknegjaeoffnbaaGreatDoor.Zh (Q9 p)≤648:=by
 have h1:=H4 h.sz
 have h2:=h.QAf
 have:=aB 81 h2
 omega
section
variable {w:ak} {F:Gs} {q q2:Option Addr} {n cap n2 cap2:Nat} {ps qs:List V5} {v:Int}
theorem Cp.add {p r:Pt} (hp:Cp p v) (hr:Cp r v):(∀ t∈Q9 p++Q9 r,t.2.length=(v+1).toNat∧PW t.2)∧YtknegjaeoffnbaaGreatDoor.Zh (Q9 p++Q9 r)≤90000 :=
 ⟨fun t ht=>by
  rcases List.mem_append.1 ht with ht | ht
  ·exact hp.wp t ht
  ·exact hr.wp t ht,by rw [Xc];have:=hp.Zh;have:=hr.Zh;omega⟩
theorem Cp.der {p:Pt} {i:Nat} (hp:Cp p v) (hi:i<(v+1).toNat):(∀ t∈ZT i (Q9 p),t.2.length=(v+1).toNat∧PW t.2)∧YtknegjaeoffnbaaGreatDoor.Zh (ZT i (Q9 p))≤90000:=by
 refine⟨fun t ht=>?_,?_⟩
 ·obtain ⟨u,hu,h0,rfl⟩:=EL ht
  have:=hp.wp u hu
  exact⟨by show(u.2.set i _).length=_;rw [ba];exact this.1,this.2.set h0⟩
 ·have h1:=H4 (Ui (v:=i) (l:=Q9 p) fun t ht=>⟨aq (hp.sz t ht) (by decide),(hp.wp t ht).2,by rw [(hp.wp t ht).1];exact hi⟩)
  have h2:=hp.QAf
  have h3:=B7 i (Q9 p)
  have:=aB 2501 (aq h3 h2)
  omega
end
def V0 (g:List Int→Rat):List Tm→Rat
 |[]=>0
 |t::l=>t.1*g t.2+V0 g l
theorem zF (g:List Int→Rat) (p q:List Tm):V0 g (p++q)=V0 g p+V0 g q:=by
 induction p with
 |nil=>simp [V0,bg]
 |cons t p ih=>simp only [ae,V0,ih,bw]
theorem ve (g:List Int→Rat) (p:List Tm) (t:Tm):V0 g (ZC p t)=V0 g p+t.1*g t.2:=by
 induction p with
 |nil =>
  unfold ZC
  split
  ·rename_i h;rw [h];simp [V0,aO,aY]
  ·simp [V0,bg,aY]
 |cons x p ih =>
  unfold ZC
  split
  ·simp only [V0,ih,bw]
  ·split
   ·rename_i h
    split
    ·rename_i h0
     simp only [V0];rw [h]
     have:x.1*g t.2+t.1*g t.2=0:=by rw [← bT,h0,aO]
     grind
    ·simp only [V0];rw [h,bT];grind
   ·split
    ·rename_i h0;rw [h0,aO,aY]
    ·simp only [V0];grind
theorem qH (g:List Int→Rat):∀ (l p:List Tm),V0 g (l.foldl ZC p)=V0 g p+V0 g l
 |[],p=>by simp [V0,aY]
 |t::l,p=>by rw [bc,qH g l,ve,V0,bw]
theorem qG (g:List Int→Rat) (l:List Tm):V0 g (Jp l)=V0 g l:=by
 rw [Jp,qH,V0,bg]
theorem zE (g:List Int→Rat) {p q:List Tm} (h:KB p q):V0 g p=V0 g q:=by
 rw [← qG g p,EJ h,qG]
theorem dZ (g:List Int→Rat) (f:Tm→Tm) (h:List Int→Rat) (hf:∀ t,(f t).1*g (f t).2=t.1*h t.2) (l:List Tm):V0 g (l.map f)=V0 h l:=by
 induction l with
 |nil=>rfl
 |cons t l ih=>rw [aS,V0,V0,ih,hf]
theorem pE (l:List Tm) (k:List Int):Jh l k=V0 (fun j=>if j=k then 1 else 0) l:=by
 induction l with
 |nil=>rfl
 |cons t l ih=>rw [Jh,V0,ih];split<;>simp
theorem Uf {v:Nat} {l:List Tm} {x:Tm} (h:x∈ZT v l):∃ t∈l,0<Qa t.2 v∧x=(t.1*((Qa t.2 v:Int):Rat),t.2.set v (Qa t.2 v - 1)):=by
 unfold ZT at h
 obtain ⟨t,ht,h⟩:=List.mem_flatMap.1 h
 unfold EU at h
 split at h
 ·rename_i g;exact⟨t,ht,g,List.mem_singleton.1 h⟩
 ·cases h
theorem vG:∀ {a b:List Int},a.length=b.length→(∀ x∈a,0≤x)→(∀ x∈b,0≤x)→∀ x∈J4 a b,0≤x
 |[],[],_,_,_=>fun x hx=>by cases hx
 |[],_::_,h,_,_=>by simp at h
 |_::_,[],h,_,_=>by simp at h
 |x::a,y::b,h,ha,hb=>fun z hz=>by
  rcases List.mem_cons.1 (show z∈(x+y)::J4 a b from hz) with rfl | hz
  ·have:=ha x ai
   have:=hb y ai
   omega
  ·exact vG (by simpa using h) (fun x hx=>ha x (av _ hx)) (fun x hx=>hb x (av _ hx)) z hz
theorem UR:∀ (a:List Int),J4 a (ao a.length 0)=a
 |[]=>rfl
 |x::a=>by
  show(x+0)::J4 a (ao a.length 0)=_
  rw [UR a,Int.add_zero]
def RN (v:Nat) (t:Tm):Tm:=(t.1*((Qa t.2 v:Int):Rat),t.2.set v (Qa t.2 v - 1))
def N5 (v:Nat) (l:List Tm):List Tm:=l.map (RN v)
def NN (l:List Tm):Prop:=∀ t∈l,∀ x∈t.2,0≤x
theorem NN.app {p q:List Tm} (h:NN p) (k:NN q):NN (p++q):=fun t ht=>by
 rcases List.mem_append.1 ht with ht | ht
 ·exact h t ht
 ·exact k t ht
theorem NN.tail {t:Tm} {p:List Tm} (h:NN (t::p)):NN p:=fun x hx=>h x (av _ hx)
theorem Sb {l:List Int} (h:∀ x∈l,0≤x) (v:Nat):0≤Qa l v:=by
 by_cases g:v<l.length
 ·rw [Xx g];exact h _ (bQ g)
 ·rw [Gf (by omega)];exact aW _
theorem dz (v:Nat) {p q:List Tm} (h:KB p q):KB (N5 v p) (N5 v q):=fun k=>by
 have e:∀ l,Jh (N5 v l) k=V0 (fun j=>((Qa j v:Int):Rat)*(if j.set v (Qa j v - 1)=k then 1 else 0)) l:=fun l=>by
  rw [pE]
  exact dZ _ (RN v) _ (fun t=>by unfold RN;dsimp only;rw [aE]) l
 rw [e,e,zE _ h]
theorem CZ (v:Nat) {l:List Tm} (h:NN l):KB (ZT v l) (N5 v l):=by
 induction l with
 |nil=>exact KB.refl _
 |cons t l ih =>
  have ih:=ih h.tail
  have e:ZT v (t::l)=EU v t++ZT v l:=rfl
  have e2:N5 v (t::l)=[RN v t]++N5 v l:=rfl
  rw [e,e2]
  refine KB.append ?_ ih
  have hd:=Sb (h t ai) v
  unfold EU RN
  split
  ·exact KB.refl _
  ·rename_i g
   have h0:Qa t.2 v=0:=by omega
   rw [h0,show(((0:Int):Int):Rat)=0 from rfl,ej]
   exact(eqv_zero _ []).symm
theorem pC (v:Nat) {p q:List Tm} (hp:NN p) (hq:NN q) (h:KB p q):KB (ZT v p) (ZT v q) :=
 (CZ v hp).trans ((dz v h).trans (CZ v hq).symm)
theorem pD (v:Nat) (p q:List Tm):ZT v (p++q)=ZT v p++ZT v q:=by unfold ZT;rw [eG]
theorem pA (v:Nat) (p q:List Tm):N5 v (p++q)=N5 v p++N5 v q:=by unfold N5;rw [bU]
theorem zg:∀ {a b:List Int} {v:Nat},v<a.length→a.length=b.length→Qa (J4 a b) v=Qa a v+Qa b v∧∀ z w,J4 (a.set v z) b=(J4 a b).set v (z+Qa b v)∧J4 a (b.set v w)=(J4 a b).set v (Qa a v+w)
 |[],_,_,h,_=>by simp at h
 |_::_,[],_,_,h=>by simp at h
 |x::a,y::b,0,_,_=>⟨rfl,fun z w=>⟨rfl,rfl⟩⟩
 |x::a,y::b,v+1,h,e=>by
  obtain ⟨h1,h2⟩:=zg (a:=a) (b:=b) (v:=v) (by simpa using h) (by simpa using e)
  have d:∀ (z:Int) (l:List Int),Qa (z::l) (v+1)=Qa l v:=fun z l=>by simp [Qa]
  refine⟨by show Qa ((x+y)::J4 a b) (v+1)=_;rw [d,d,d];exact h1,fun z w=>?_⟩
  rw [d,d]
  exact⟨by show(x+y)::J4 (a.set v z) b=((x+y)::J4 a b).set (v+1) _;rw [(h2 z w).1];rfl,by show(x+y)::J4 a (b.set v w)=((x+y)::J4 a b).set (v+1) _;rw [(h2 z w).2];rfl⟩
theorem pB {n v:Nat} {s t:Tm} (hv:v<n) (hs:s.2.length=n) (ht:t.2.length=n) (k:List Int) :
  Jh [RN v (s.1*t.1,J4 s.2 t.2)] k=Jh [((RN v s).1*t.1,J4 (RN v s).2 t.2)] k+Jh [(s.1*(RN v t).1,J4 s.2 (RN v t).2)] k:=by
 obtain ⟨h1,h2⟩:=zg (a:=s.2) (b:=t.2) (v:=v) (by omega) (by omega)
 have h3:=h2 (Qa s.2 v - 1) (Qa t.2 v - 1)
 unfold RN
 dsimp only
 rw [h1,h3.1,h3.2,show Qa s.2 v - 1+Qa t.2 v=Qa s.2 v+Qa t.2 v - 1 by omega,show Qa s.2 v+(Qa t.2 v - 1)=Qa s.2 v+Qa t.2 v - 1 by omega]
 simp only [Jh]
 rw [Rat.intCast_add]
 split<;>grind
theorem kF {n v:Nat} {s:Tm} {q:List Tm} (hv:v<n) (hs:s.2.length=n) (hq:Zm n q):KB (N5 v (Jw s q)) (Jw (RN v s) q++Jw s (N5 v q)):=by
 induction q with
 |nil=>exact KB.refl _
 |cons t q ih =>
  intro k
  have e1:=ih hq.tail k
  have e2:=pB hv hs (hq t ai) k
  have a1:N5 v (Jw s (t::q))=[RN v (s.1*t.1,J4 s.2 t.2)]++N5 v (Jw s q):=rfl
  have a2:Jw (RN v s) (t::q)=[((RN v s).1*t.1,J4 (RN v s).2 t.2)]++Jw (RN v s) q:=rfl
  have a3:Jw s (N5 v (t::q))=[(s.1*(RN v t).1,J4 s.2 (RN v t).2)]++Jw s (N5 v q):=rfl
  rw [a1,a2,a3]
  simp only [Z7] at e1 ⊢
  rw [e1,e2]
  grind
theorem vw {n v:Nat} {p q:List Tm} (hv:v<n) (hp:Zm n p) (hq:Zm n q):KB (N5 v (JM p q)) (JM (N5 v p) q++JM p (N5 v q)):=by
 induction p with
 |nil=>exact KB.refl _
 |cons s p ih =>
  intro k
  have e1:=ih hp.tail k
  have e2:=kF hv (hp s ai) hq k
  have a1:N5 v (s::p)=RN v s::N5 v p:=rfl
  rw [a1,X2,X2,X2,pA]
  simp only [Z7] at e1 e2 ⊢
  rw [e1,e2]
  grind
theorem qL {n v:Nat} {p:List Tm} (h:Zm n p):Zm n (N5 v p):=fun t ht=>by
 obtain ⟨x,hx,rfl⟩:=List.mem_map.1 ht
 show(x.2.set v _).length=n
 rw [ba];exact h x hx
theorem Uh {n v:Nat} {p:List Tm} (h:Zm n p):Zm n (ZT v p):=fun t ht=>by
 obtain ⟨x,hx,_,rfl⟩:=Uf ht
 show(x.2.set v _).length=n
 rw [ba];exact h x hx
theorem ub {v:Nat} {p:List Tm} (h:NN p):NN (ZT v p):=fun t ht y hy=>by
 obtain ⟨x,hx,h0,rfl⟩:=Uf ht
 rcases bY hy with hy | rfl
 ·exact h x hx y hy
 ·omega
theorem vX {n:Nat} {s:Tm} {q:List Tm} (hs:s.2.length=n) (ns:∀ x∈s.2,0≤x) (hq:Zm n q) (nq:NN q):NN (Jw s q):=fun t ht=>by
 obtain ⟨u,hu,rfl⟩:=List.mem_map.1 ht
 exact vG (by rw [hs,hq u hu]) ns (nq u hu)
theorem xk {n:Nat} {p q:List Tm} (hp:Zm n p) (np:NN p) (hq:Zm n q) (nq:NN q):NN (JM p q):=fun t ht=>by
 obtain ⟨s,hs,ht⟩:=List.mem_flatMap.1 ht
 exact vX (hp s hs) (np s hs) hq nq t ht
theorem vz {n v:Nat} {p q:List Tm} (hv:v<n) (hp:Zm n p) (hq:Zm n q) (np:NN p) (nq:NN q):KB (ZT v (JM p q)) (JM (ZT v p) q++JM p (ZT v q)):=by
 refine(CZ v (xk hp np hq nq)).trans ((vw hv hp hq).trans ?_)
 refine KB.append ?_ ?_
 ·exact KB.prod (qL hp) (Uh hp) hq hq (CZ v np).symm (KB.refl _)
 ·exact KB.prod hp hp (qL hq) (Uh hq) (KB.refl _) (CZ v nq).symm
structure WN (n:Nat) (p:List Tm):Prop where
 w:Zm n p
 nn:NN p
def WP (n:Nat):={p:List Tm // WN n p}
instance wpS (n:Nat):Setoid (WP n):=⟨fun p q=>KB p.1 q.1,⟨fun _=>KB.refl _,fun h=>KB.symm h,fun h k=>KB.trans h k⟩⟩
def Pq (n:Nat):=Quotient (wpS n)
section
variable {n:Nat}
def Pq.mk (p:List Tm) (h:WN n p):Pq n:=Quotient.mk _ ⟨p,h⟩
theorem Pq.eq {p q:List Tm} {h:WN n p} {k:WN n q} (e:KB p q):Pq.mk p h=Pq.mk q k:=Quotient.sound e
theorem Pq.eqv {p q:List Tm} {h:WN n p} {k:WN n q} (e:Pq.mk p h=Pq.mk q k):KB p q:=Quotient.exact e
theorem Pq.rep (x:Pq n):∃ p h,x=Pq.mk p h:=Quotient.inductionOn x fun a=>⟨a.1,a.2,rfl⟩
theorem WN.app {p q:List Tm} (h:WN n p) (k:WN n q):WN n (p++q):=⟨h.w.append k.w,h.nn.app k.nn⟩
theorem WN.prod {p q:List Tm} (h:WN n p) (k:WN n q):WN n (JM p q):=⟨h.w.JM k.w,xk h.w h.nn k.w k.nn⟩
theorem WN.der {p:List Tm} (h:WN n p) (v:Nat):WN n (ZT v p):=⟨Uh h.w,ub h.nn⟩
theorem WN.norm {p:List Tm} (h:WN n p):WN n (Jp p):=⟨h.w.Jp,fun t ht=>by
 obtain ⟨y,hy,e⟩:=Wx ht
 rw [← e];exact h.nn y hy⟩
theorem WN.nil:WN n []:=⟨fun _ h=>(by cases h),fun _ h=>(by cases h)⟩
theorem WN.cons {t:Tm} {p:List Tm} (h:WN n (t::p)):WN n [t]∧WN n p :=
 ⟨⟨fun x hx=>by rw [List.mem_singleton.1 hx];exact h.w t ai,fun x hx=>by rw [List.mem_singleton.1 hx];exact h.nn t ai⟩,⟨h.w.tail,h.nn.tail⟩⟩
theorem WN.con (c:Rat):WN n [(c,ao n 0)]:=⟨fun x hx=>by rw [List.mem_singleton.1 hx];simp,fun x hx y hy=>by
 rw [List.mem_singleton.1 hx] at hy;rw [List.eq_of_mem_replicate hy];exact aW _⟩
instance :Add (Pq n):=⟨Quotient.lift₂ (fun p q=>Pq.mk (p.1++q.1) (p.2.app q.2)) (fun _ _ _ _ h k=>Pq.eq (KB.append h k))⟩
instance :Mul (Pq n):=⟨Quotient.lift₂ (fun p q=>Pq.mk (JM p.1 q.1) (p.2.prod q.2)) (fun a b c d h k=>Pq.eq (KB.prod a.2.w c.2.w b.2.w d.2.w h k))⟩
def Pq.D (v:Nat):Pq n→Pq n:=eP (fun p=>Pq.mk (ZT v p.1) (p.2.der v)) (fun a b h=>Pq.eq (pC v a.2.nn b.2.nn h))
def Pq.C (c:Rat):Pq n:=Pq.mk [(c,ao n 0)] (WN.con c)
def Pq.O:Pq n:=Pq.mk [] WN.nil
theorem dX {p q:List Tm} (h:WN n p) (k:WN n q):Pq.mk p h+Pq.mk q k=Pq.mk (p++q) (h.app k):=rfl
theorem dW {p q:List Tm} (h:WN n p) (k:WN n q):Pq.mk p h*Pq.mk q k=Pq.mk (JM p q) (h.prod k):=rfl
theorem Le {p:List Tm} (h:WN n p):Pq.mk (Jp p) h.norm=Pq.mk p h:=Pq.eq (eqv_norm p)
theorem Pq.add_comm (x y:Pq n):x+y=y+x:=by
 obtain ⟨p,h,rfl⟩:=Pq.rep x;obtain ⟨q,k,rfl⟩:=Pq.rep y
 exact Pq.eq (KB.perm er)
theorem Pq.add_assoc (x y z:Pq n):x+y+z=x+(y+z):=by
 obtain ⟨p,h,rfl⟩:=Pq.rep x;obtain ⟨q,k,rfl⟩:=Pq.rep y;obtain ⟨r,l,rfl⟩:=Pq.rep z
 exact Pq.eq (by rw [aX];exact KB.refl _)
theorem Pq.mul_comm (x y:Pq n):x*y=y*x:=by
 obtain ⟨p,h,rfl⟩:=Pq.rep x;obtain ⟨q,k,rfl⟩:=Pq.rep y
 exact Pq.eq (KB.perm (Rz p q))
theorem Pq.mul_assoc (x y z:Pq n):x*y*z=x*(y*z):=by
 obtain ⟨p,h,rfl⟩:=Pq.rep x;obtain ⟨q,k,rfl⟩:=Pq.rep y;obtain ⟨r,l,rfl⟩:=Pq.rep z
 exact Pq.eq (by rw [xo];exact KB.refl _)
theorem Pq.add_mul (x y z:Pq n):(x+y)*z=x*z+y*z:=by
 obtain ⟨p,h,rfl⟩:=Pq.rep x;obtain ⟨q,k,rfl⟩:=Pq.rep y;obtain ⟨r,l,rfl⟩:=Pq.rep z
 exact Pq.eq (by rw [Wa];exact KB.refl _)
theorem Pq.mul_add (x y z:Pq n):x*(y+z)=x*y+x*z:=by
 rw [Pq.mul_comm,Pq.add_mul,Pq.mul_comm y,Pq.mul_comm z]
instance :Std.Associative (α:=Pq n) (·+·):=⟨Pq.add_assoc⟩
instance :Std.Commutative (α:=Pq n) (·+·):=⟨Pq.add_comm⟩
instance :Std.Associative (α:=Pq n) (·*·):=⟨Pq.mul_assoc⟩
instance :Std.Commutative (α:=Pq n) (·*·):=⟨Pq.mul_comm⟩
theorem Pq.F3 (x:Pq n):x+Pq.O=x:=by
 obtain ⟨p,h,rfl⟩:=Pq.rep x;exact Pq.eq (by rw [eW];exact KB.refl _)
theorem Pq.qP (x:Pq n):Pq.O+x=x:=by rw [Pq.add_comm,Pq.F3]
theorem Pq.F5 (x:Pq n):Pq.O*x=Pq.O:=by
 obtain ⟨p,h,rfl⟩:=Pq.rep x;exact Pq.eq (KB.refl _)
theorem Pq.ux (x:Pq n):x*Pq.O=Pq.O:=by rw [Pq.mul_comm,Pq.F5]
theorem Pq.kc:(Pq.C 0:Pq n)=Pq.O:=Pq.eq (eqv_zero _ [])
theorem vV (k:Nat):J4 (ao k 0) (ao k 0)=ao k 0:=by
 have:=UR (ao k (0:Int));rwa [List.length_replicate] at this
theorem Pq.QA2 (a b:Rat):(Pq.C a:Pq n)*Pq.C b=Pq.C (a*b):=Pq.eq (by
 show KB [(a*b,J4 (ao n 0) (ao n 0))] _
 rw [vV];exact KB.refl _)
theorem Pq.cA (a b:Rat):(Pq.C a:Pq n)+Pq.C b=Pq.C (a+b):=Pq.eq (eqv_join a b _ [])
theorem Pq.mul_one (x:Pq n):x*Pq.C 1=x:=by
 obtain ⟨p,h,rfl⟩:=Pq.rep x
 refine Pq.eq ?_
 have:JM p [((1:Rat),ao n (0:Int))]=p:=by
  have hw:=h.w
  clear h
  induction p with
  |nil=>rfl
  |cons t p ih =>
   rw [X2,ih hw.tail]
   have:=hw t ai
   show [(t.1*1,J4 t.2 (ao n 0))]++p=_
   rw [aM,← this,UR];rfl
 rw [this];exact KB.refl _
theorem Pq.one_mul (x:Pq n):Pq.C 1*x=x:=by rw [Pq.mul_comm,Pq.mul_one]
theorem Pq.QA0 (v:Nat) (x y:Pq n):Pq.D v (x+y)=Pq.D v x+Pq.D v y:=by
 obtain ⟨p,h,rfl⟩:=Pq.rep x;obtain ⟨q,k,rfl⟩:=Pq.rep y
 exact Pq.eq (by rw [pD];exact KB.refl _)
theorem Pq.pe {v:Nat} (hv:v<n) (x y:Pq n):Pq.D v (x*y)=Pq.D v x*y+x*Pq.D v y:=by
 obtain ⟨p,h,rfl⟩:=Pq.rep x;obtain ⟨q,k,rfl⟩:=Pq.rep y
 exact Pq.eq (vz hv h.w k.w h.nn k.nn)
theorem Pq.D_O (v:Nat):Pq.D v (Pq.O:Pq n)=Pq.O:=Pq.eq (KB.refl _)
theorem qK (n v:Nat):Qa (ao n (0:Int)) v=0:=by
 by_cases g:v<n
 ·rw [Xx (by simpa using g)];simp
 ·exact Gf (by simp;omega)
theorem Pq.D_C (v:Nat) (c:Rat):Pq.D v (Pq.C c:Pq n)=Pq.O:=Pq.eq (by
 show KB (EU v (c,ao n 0)++[]) []
 unfold EU
 rw [if_neg (by rw [qK];omega)]
 exact KB.refl _)
end
theorem C5 (p:List Tm):Q9 (ZQ p)=p:=by
 unfold Q9 ZQ
 rw [ee]
 conv=>rhs;rw [← List.map_id p]
 refine eF fun t _=>?_
 show(Jj (JN t.1),t.2)=t
 rw [GA]
theorem xP {p:List Tm} {i:Nat} (h:i<p.length):el (ZQ p) i=(JN (el p i).1,(el p i).2):=by
 rw [X5 (by rw [Mj];exact h),X5 h];simp [ZQ]
theorem ug (l:List Int):Ks l≤l.sum:=by
 unfold Ks
 induction l with
 |nil=>exact aW _
 |cons a l ih=>rw [aS,bG,bG];split<;>omega
def Bq (k:Nat) (p:List Tm):Prop:=Bd p k 64 1800 12
section
variable {k:Nat} {v:Int} {p:List Tm}
theorem Bq.of {c z:Nat} {d:Int} (h:Bd p k c z d) (hc:c≤64) (hz:z≤1800) (hd:d≤12):Bq k p:=h.mono hc hz hd
theorem Bq.uy (h:Bq k p):∀ t∈p,XN t.1=false:=fun t ht=>Y9 (h.sz t ht) (ay _)
theorem Bq.C6 (h:Bq k p) (hk:(k:Int)=v+1):XZ (ZQ p) v=0:=by
 have hln:=h.ln
 unfold XZ
 rw [Mj,if_neg (by rw [decide_eq_true_eq];omega)]
 have hz:∀ i,i<p.length→Vg (ZQ p) v i=0:=fun i hi=>by
  have hm:=JK hi
  obtain ⟨h1,h2⟩:=h.nn _ hm
  have e1:Z9 (JN (el p i).1) (el p i).2 v=0:=by
   unfold Z9
   rw [if_neg (by have:=h.wd _ hm;omega),if_neg,RU (h.uy _ hm),if_neg]
   ·rfl
   ·rw [decide_eq_true_eq];have:=ug (el p i).2;omega
   ·intro e
    obtain ⟨x,hx,hx2⟩:=List.any_eq_true.1 e
    rw [decide_eq_true_eq] at hx2
    have:=h1 x hx;omega
  have e2:(JN (el p i).1==[48])=false:=by
   rw [gR];exact decide_eq_false (h.can.nz _ hm)
  unfold Vg
  dsimp only
  rw [xP hi]
  dsimp only
  rw [e1,e2,if_neg]
  ·rfl
  ·rintro ⟨_,h0,hc⟩
   have hi1:i - 1<p.length:=by omega
   rw [xP hi1] at hc
   have hb:before (el p (i - 1)).2 (el p i).2=true:=by
    rw [X5 hi1,X5 hi]
    exact List.pairwise_iff_getElem.1 h.can.C8 (i - 1) i hi1 hi (by omega)
   rw [K9,decide_eq_true_eq] at hb
   dsimp only at hc
   omega
 have key:∀ (l:List Int),(∀ x∈l,x=0)→Ql l=0:=by
  intro l
  induction l with
  |nil=>intro _;rfl
  |cons a l ih =>
   intro hl
   unfold Ql
   rw [if_pos (hl a ai)]
   exact ih fun x hx=>hl x (av _ hx)
 refine key _ fun x hx=>?_
 obtain ⟨i,hi,rfl⟩:=List.mem_map.1 hx
 exact hz i (List.mem_range.1 hi)
theorem Bq.res (h:Bq k p):GL p=0∧H8 p=ZQ p:=by
 have h1:Fs p≤12:=by
  cases p with
  |nil=>exact(by decide:(0:Int)≤12)
  |cons t l=>exact(h.nn t ai).2
 have h2:=h.ln
 have h3:WH p=false:=by
  unfold WH
  rw [bK]
  intro t ht e
  rw [h.uy t ht] at e;cases e
 have e:GL p=0:=by
  unfold GL
  rw [if_neg (by rw [decide_eq_true_eq];omega),if_neg (by rw [decide_eq_true_eq];omega),h3];rfl
 exact⟨e,by unfold H8;rw [if_pos e]⟩
theorem Bq.txt (h:Bq k p):∀ x∈ZQ p,x.1.length≤1000000∧x.2.length≤k:=fun x hx=>by
 unfold ZQ at hx
 obtain ⟨t,ht,rfl⟩:=List.mem_map.1 hx
 have h1:=V6 t.1
 have h2:=h.sz t ht
 exact⟨by dsimp only;omega,by rw [h.wd t ht];exact ay _⟩
theorem Bq.yE {F:Gs} {a:KG} (h:Bq k p) (hk:k≤1000) (hA:YR F a.1 a.2 (ZQ p)):VX a :=
 YR.yE hA (fun x hx=>by have:=h.txt x hx;omega) (by rw [Mj];have:=h.ln;omega)
end
section
variable {w:ak} {F:Gs} {k:Nat} {v:Int} {p q:List Tm} {a b:KG}
theorem uZ {q:Option Addr} {cap:Nat} {xs:List (List UInt8)} (hF:Fits F w) (hGl:JB F) (hA:YR F a.1 a.2 (ZQ p)) (hk:1≤k∧k≤25) (hp:Bq k p) (hS:Q6 F q k 1 (xs.map tx)) (hn:xs.length=k) (hx:∀ s∈xs,Jg s=0∧s.length≤1000000) (hl:XN (Zp (xs.map Jj) p)=false) :
  QZ Tryz.prog 80 [a.1.v,.slice q k cap] w F (.tuple #[tx (JN (Zp (xs.map Jj) p)),.int .i64 0]):=by
 have h:=kA (a:=a) (cap:=cap) hF hGl hA.1 hA.2.1 (hp.yE (by omega) hA) hS hn (fun s hs=>(hx s hs).2) (by omega)
 have e1:BN (ZQ p) xs.length=0:=by
  have z1:(if decide ((k:Int)=0)=true then(2:Int) else 0)=0:=if_neg (by rw [decide_eq_true_eq];omega)
  have z2:(if decide ((k:Int)>25)=true then(5:Int) else 0)=0:=if_neg (by rw [decide_eq_true_eq];omega)
  unfold BN
  rw [hn,z1,z2]
  exact(if_pos rfl).trans (hp.C6 (v:=(k:Int) - 1) (by omega))
 have e2:Ql (xs.map Jg)=0:=by
  have key:∀ l:List (List UInt8),(∀ s∈l,Jg s=0)→Ql (l.map Jg)=0:=by
   intro l
   induction l with
   |nil=>intro _;rfl
   |cons s l ih=>intro hl;rw [aS];unfold Ql;rw [if_pos (hl s ai)];exact ih fun x hx=>hl x (av _ hx)
  exact key xs fun s hs=>(hx s hs).1
 have e3:cm (J2 a.2) xs=(JN (Zp (xs.map Jj) p),0):=by
  rw [hA.2.2.1]
  unfold cm
  rw [if_pos e1,if_pos e2,C5]
  unfold Nd
  rw [hl];rfl
 rw [e3] at h
 exact h
end
theorem cf {p:Pt} {v a b:Int} {dg:Nat} (hk:0≤v) (h:dn p v a b dg=true):p=ZQ (Q9 p)∧Bd (Q9 p) (v+1).toNat a.toNat (8*dg+8) b:=by
 unfold dn at h
 split at h
 ·cases h
 ·rename_i h0
  rw [not_or,Classical.not_not] at h0
  obtain ⟨h1,h2⟩:=h0
  have ho:=KU h2
  have hck:∀ x∈p,Jg x.1=0:=fun x hx=>(YI (ho.term x hx)).2.2.2
  have hfw:∀ x∈p,x.2.sum≤b∧Nk x.1 dg=true:=fun x hx=>by
   rw [bL,bK] at h
   have:=h x hx
   rw [bR,aR,decide_eq_false_iff_not,bj] at this
   exact⟨by omega,this.2⟩
  refine⟨xN hck,ho.can,fun t ht=>by have:=ho.wide t ht;omega,fun t ht=>?_,by unfold Q9;rw [aG];omega,fun t ht=>?_⟩
  ·unfold Q9 at ht
   obtain ⟨x,hx,rfl⟩:=List.mem_map.1 ht
   exact⟨fun y hy=>((YI (ho.term x hx)).2.1 y hy).1,(hfw x hx).1⟩
  ·unfold Q9 at ht
   obtain ⟨x,hx,rfl⟩:=List.mem_map.1 ht
   have hl:=(hfw x hx).2
   simp only [Nk,aZ,decide_eq_true_eq] at hl
   have:=L3 (hck x hx) (k:=2*dg+2) (by omega) (by omega)
   dsimp only;omega
theorem xY (x:Rat) (m:Nat):∀ n:Nat,x^(m+n)=x^m*x^n
 |0=>by rw [bN,bM,aM]
 |n+1=>by rw [← ff,bC,bC,xY x m n,aE]
theorem Lw (c:Rat) (xs:List Rat) (ks:List Int):∀ n,W1 c xs ks n=c*W1 1 xs ks n
 |0=>by show c=c*1;rw [aM]
 |n+1=>by rw [Vk,Vk,Lw c xs ks n,aE]
def Il (xs:List Rat) (ks:List Int):Rat:=W1 1 xs ks ks.length
theorem Wy (xs:List Rat) (l:List Tm):Zp xs l=V0 (Il xs) l:=by
 have key:∀ (l:List Tm) (a:Rat),l.foldl (fun a t=>a+W1 t.1 xs t.2 t.2.length) a=a+V0 (Il xs) l:=by
  intro l
  induction l with
  |nil=>intro a;simp [V0,aY]
  |cons t l ih=>intro a;rw [bc,ih,V0,Lw,bw];rfl
 unfold Zp
 rw [key,bg]
theorem vv (xs:List Rat) (p q:List Tm):Zp xs (p++q)=Zp xs p+Zp xs q:=by rw [Wy,Wy,Wy,zF]
theorem vu (xs:List Rat) {p q:List Tm} (h:KB p q):Zp xs p=Zp xs q:=by rw [Wy,Wy,zE _ h]
theorem zW:∀ {a b:List Int} (j:Nat),a.length=b.length→Qa (J4 a b) j=Qa a j+Qa b j
 |[],[],j,_=>by simp [Qa,J4]
 |[],_::_,_,h=>by simp at h
 |_::_,[],_,h=>by simp at h
 |x::a,y::b,0,_=>rfl
 |x::a,y::b,j+1,h=>by
  have:=zW (a:=a) (b:=b) j (by simpa using h)
  have d:∀ (z:Int) (l:List Int),Qa (z::l) (j+1)=Qa l j:=fun z l=>by simp [Qa]
  show Qa ((x+y)::J4 a b) (j+1)=_
  rw [d,d,d];exact this
theorem C3 (xs:List Rat) {a b:List Int} (h:a.length=b.length) (ha:∀ x∈a,0≤x) (hb:∀ x∈b,0≤x):∀ n,W1 1 xs (J4 a b) n=W1 1 xs a n*W1 1 xs b n
 |0=>by show(1:Rat)=1*1;rw [aM]
 |n+1=>by
  have h1:=Sb ha n
  have h2:=Sb hb n
  rw [Vk,Vk,Vk,C3 xs h ha hb n,zW n h,show(Qa a n+Qa b n).toNat=(Qa a n).toNat+(Qa b n).toNat by omega,xY]
  grind
theorem dU (xs:List Rat) {a b:List Int} (h:a.length=b.length) (ha:∀ x∈a,0≤x) (hb:∀ x∈b,0≤x):Il xs (J4 a b)=Il xs a*Il xs b:=by
 unfold Il
 rw [C3 xs h ha hb,KA h,h]
theorem zS {n:Nat} (xs:List Rat) {s:Tm} {q:List Tm} (hs:s.2.length=n) (ns:∀ x∈s.2,0≤x) (hq:WN n q):V0 (Il xs) (Jw s q)=s.1*Il xs s.2*V0 (Il xs) q:=by
 induction q with
 |nil=>simp [Jw,V0,ej]
 |cons t q ih =>
  have h1:=hq.w t ai
  have h2:=hq.nn t ai
  have ih:=ih hq.cons.2
  show s.1*t.1*Il xs (J4 s.2 t.2)+V0 (Il xs) (Jw s q)=_
  rw [ih,dU xs (by rw [hs,h1]) ns h2,V0]
  grind
theorem kC {n:Nat} (xs:List Rat) {p q:List Tm} (hp:WN n p) (hq:WN n q):Zp xs (JM p q)=Zp xs p*Zp xs q:=by
 rw [Wy,Wy,Wy]
 induction p with
 |nil=>simp [JM,V0,aO]
 |cons s p ih =>
  have ih:=ih hp.cons.2
  rw [X2,zF,ih,zS xs (hp.w s ai) (hp.nn s ai) hq,V0]
  grind
theorem kH (y:Rat) (l:List Tm) (k:List Int):Jh (l.map fun t=>((t.1*y,t.2):Tm)) k=Jh l k*y:=by
 induction l with
 |nil=>show(0:Rat)=0*y;rw [aO]
 |cons t l ih =>
  rw [aS,Jh,Jh,ih,bT]
  congr 1
  split
  ·rfl
  ·rw [aO]
theorem QA5 (l:List Tm):Jp (l++KI (-1) l)=[]:=by
 have:KB (l++KI (-1) l) []:=fun k=>by
  rw [Z7]
  unfold KI
  rw [if_neg (by decide +kernel),kH]
  show _=(0:Rat)
  grind
 rw [EJ this];rfl
theorem vI {xs:List Rat} {ks:List Int} {z:Nat} (hx:∀ x∈xs,JL x≤z) (hk:∀ k∈ks,0≤k) (hl:ks.length≤xs.length):∀ n,n≤ks.length→JL (W1 1 xs ks n)≤1+(ks.take n).sum.toNat*z+n
 |0,_=>by show JL (1:Rat)≤_;exact aq (by decide) (Nat.le_add_right 1 _)
 |n+1,hn=>by
  have ih:=vI hx hk hl n (by omega)
  have h1:=J9 (W1 1 xs ks n) (el xs n^(Qa ks n).toNat)
  have h2:=WT (el xs n) (Qa ks n).toNat
  have h3:=hx _ (JK (show n<xs.length by omega))
  have h4:(Qa ks n).toNat*JL (el xs n)≤(Qa ks n).toNat*z:=Nat.mul_le_mul_left _ h3
  have h5:=Hn (l:=ks) (i:=n) (by omega)
  have h6:=Sb hk n
  have h7:0≤(ks.take n).sum:=Ek fun x hx=>hk x (ez hx)
  rw [Vk,h5,show((ks.take n).sum+Qa ks n).toNat=(ks.take n).sum.toNat+(Qa ks n).toNat by omega,bn]
  omega
section
variable {k:Nat} {p q:List Tm}
theorem Bd.wn {c z:Nat} {d:Int} (h:Bd p k c z d):WN k p:=⟨h.wd,fun t ht=>(h.nn t ht).1⟩
theorem Bq.wn (h:Bq k p):WN k p:=Bd.wn h
theorem Bd.mulR {c1 z1 c2 z2:Nat} {d1 d2:Int} (hp:Bd p k c1 z1 d1) (hq:Bd q k c2 z2 d2) (h1:1≤z1):Bd (Jp (JM p q)) k (c2*c1) (c2*(z2+z1+1)+1) (d2+d1):=by
 rw [EJ (KB.perm (Rz p q))]
 exact hq.mul hp h1
theorem gh (x:Rat):JL (x * -1)=JL x:=by rw [Rat.mul_neg,aM,GB]
theorem Bd.neg {c z:Nat} {d:Int} (h:Bd p k c z d):Bd (KI (-1) p) k c z d:=by
 have hm:∀ t∈KI (-1) p,∃ y∈p,t=(y.1 * -1,y.2):=fun t ht=>Dd ht
 refine⟨(vZ h.can).1,fun t ht=>?_,fun t ht=>?_,aq (SI _ _) h.ln,fun t ht=>?_⟩
 ·obtain ⟨y,hy,rfl⟩:=hm t ht;exact h.wd y hy
 ·obtain ⟨y,hy,rfl⟩:=hm t ht;exact h.nn y hy
 ·obtain ⟨y,hy,rfl⟩:=hm t ht;dsimp only;rw [gh];exact h.sz y hy
theorem Bq.nil (k:Nat):Bq k []:=⟨Canon.nil,fun _ h=>(by cases h),fun _ h=>(by cases h),aA _,fun _ h=>(by cases h)⟩
theorem dx {c z zx:Nat} {d:Int} {xs:List Rat} (h:Bd p k c z d) (hx:∀ x∈xs,JL x≤zx) (hl:k≤xs.length) (hd:0≤d):JL (Zp xs p)≤1+c*(z+1+d.toNat*zx+k+1):=by
 have h1:∀ t∈p,JL (W1 t.1 xs t.2 t.2.length)≤z+1+d.toNat*zx+k:=fun t ht=>by
  have hw:=h.wd t ht
  obtain ⟨hn,hs⟩:=h.nn t ht
  have h2:=vI hx hn (by omega) t.2.length (ay _)
  rw [ar] at h2
  have h3:=J9 t.1 (W1 1 xs t.2 t.2.length)
  have h4:=h.sz t ht
  have h5:t.2.sum.toNat*zx≤d.toNat*zx:=aB _ (by omega)
  rw [Lw]
  omega
 have h2:=jm (xs:=xs) (B:=z+1+d.toNat*zx+k) p 0 h1
 have h3:p.length*(z+1+d.toNat*zx+k+1)≤c*(z+1+d.toNat*zx+k+1):=aB _ h.ln
 have h0:JL (0:Rat)=1:=by decide +kernel
 unfold Zp
 exact aq h2 (by rw [h0];omega)
end
theorem YR.eq {F:Gs} {s:Sr} {ts:List V5} {p q:Pt} (h:YR F s ts p) (e:p=q):YR F s ts q:=e ▸ h
theorem vM {s:List UInt8} {d:Nat} (h:Nk s d=true):Jg s=0∧s.length≤2*d+2∧JL (Jj s)≤8*d+8:=by
 simp only [Nk,aZ,decide_eq_true_eq,beq_iff_eq] at h
 have h1:s.length≤2*d+2:=by omega
 have:=L3 h.2.1 (k:=2*d+2) (by omega) h1
 exact⟨h.2.1,h1,by omega⟩
section
variable {P:ei} {N:Nat} {m:Sl} {S:ak→Prop} {ty:aK}
theorem OS {T e:aK} {x:bV} {b n sz:Nat} {g:Bool} (hx:ev m x=some (.pointer (some ⟨b,0,none⟩))) (hT:vR P T=some (n,e)) (hs:YJ P e=some (g,sz)):Qt P N m S (.slice T x none none none) ty (.slice (some ⟨b,0,none⟩) n n):=fun a w _ _ _ _ ha _=>by
 simp [execOp,ha.ev hx,fb,Instr.sureAddr,eM,eR,run_underlying (qO hT),Z2 hs,Kt]
end
section
variable {n:Nat}
def Pq.pw (x:Pq n):Nat→Pq n
 |0=>Pq.C 1
 |e+1=>Pq.pw x e*x
def NR (W:Nat→Pq n) (ks:List Int):Nat→Pq n
 |0=>Pq.C 1
 |i+1=>NR W ks i*Pq.pw (W i) (Qa ks i).toNat
def BP (f:List Int→Pq n):List Tm→Pq n
 |[]=>Pq.O
 |t::l=>Pq.C t.1*f t.2+BP f l
theorem zG (f:List Int→Pq n) (p q:List Tm):BP f (p++q)=BP f p+BP f q:=by
 induction p with
 |nil=>exact(Pq.qP _).symm
 |cons t p ih=>simp only [ae,BP,ih,Pq.add_assoc]
theorem vf (f:List Int→Pq n) (p:List Tm) (t:Tm):BP f (ZC p t)=BP f p+Pq.C t.1*f t.2:=by
 induction p with
 |nil =>
  unfold ZC
  split
  ·rename_i h;rw [h,Pq.kc,Pq.F5,Pq.F3]
  ·exact(Pq.F3 _).trans (Pq.qP _).symm
 |cons x p ih =>
  unfold ZC
  split
  ·simp only [BP,ih,Pq.add_assoc]
  ·split
   ·rename_i h
    have e:Pq.C x.1*f x.2+Pq.C t.1*f t.2=Pq.C (x.1+t.1)*f t.2:=by rw [h,← Pq.add_mul,Pq.cA]
    have e2:Pq.C x.1*f x.2+BP f p+Pq.C t.1*f t.2=Pq.C x.1*f x.2+Pq.C t.1*f t.2+BP f p:=by ac_rfl
    split
    ·rename_i h0
     rw [BP,e2,e,h0,Pq.kc,Pq.F5,Pq.qP]
    ·rw [BP,BP,e2,e]
   ·split
    ·rename_i h0;rw [h0,Pq.kc,Pq.F5,Pq.F3]
    ·rw [BP,Pq.add_comm]
theorem qI (f:List Int→Pq n):∀ (l p:List Tm),BP f (l.foldl ZC p)=BP f p+BP f l
 |[],p=>(Pq.F3 _).symm
 |t::l,p=>by rw [bc,qI f l,vf,BP,Pq.add_assoc]
theorem Ip (f:List Int→Pq n) (l:List Tm):BP f (Jp l)=BP f l:=by
 rw [Jp,qI];exact Pq.qP _
theorem QAm (f:List Int→Pq n) {p q:List Tm} (h:KB p q):BP f p=BP f q:=by
 rw [← Ip f p,EJ h,Ip]
def toQ (p:List Tm) (h:WN n p):Pq n:=Pq.mk p h
theorem cq {p q:List Tm} (hp:Canon p) (hq:Canon q) {h:WN n p} {k:WN n q} (e:Pq.mk p h=Pq.mk q k):p=q:=Dm hp hq (Pq.eqv e)
theorem WN.const (a:Rat):WN n (Ka a n):=(Bd.const a n).wn
theorem zD (a:Rat):Pq.mk (Ka a n) (WN.const a)=Pq.C a:=Pq.eq (by
 unfold Ka
 by_cases h:a=0
 ·rw [if_pos h,h];exact(eqv_zero _ []).symm
 ·rw [if_neg h];exact KB.refl _)
theorem WN.pow {p:List Tm} (h:WN n p):∀ i,WN n (WC p n i)
 |0=>WN.const 1
 |i+1=>((WN.pow h i).prod h).norm
theorem dV {p:List Tm} (h:WN n p):∀ i,Pq.mk (WC p n i) (h.pow i)=Pq.pw (Pq.mk p h) i
 |0=>zD 1
 |i+1=>by
  show Pq.mk (Jp _) _=_
  rw [Le ((h.pow i).prod h),← dW (h.pow i) h,dV h i];rfl
theorem kf {ws:List (List Tm)} (h:∀ w∈ws,WN n w) (i:Nat):WN n (el ws i):=by
 by_cases g:i<ws.length
 ·exact h _ (JK g)
 ·have:el ws i=[]:=by unfold el;rw [List.getD_eq_getElem?_getD,List.getElem?_eq_none (by omega)];rfl
  rw [this];exact WN.nil
def wsQ (ws:List (List Tm)) (h:∀ w∈ws,WN n w) (i:Nat):Pq n:=Pq.mk (el ws i) (kf h i)
theorem WN.Vq {c:Rat} {ws:List (List Tm)} {ks:List Int} (h:∀ w∈ws,WN n w):∀ j,WN n (Vq c ws ks n j)
 |0=>WN.const c
 |j+1=>((WN.Vq h j).prod ((kf h j).pow _)).norm
theorem vJ {c:Rat} {ws:List (List Tm)} {ks:List Int} (h:∀ w∈ws,WN n w):∀ j,Pq.mk (Vq c ws ks n j) (WN.Vq h j)=Pq.C c*NR (wsQ ws h) ks j
 |0=>by rw [NR,Pq.mul_one];exact zD c
 |j+1=>by
  show Pq.mk (Jp _) _=_
  rw [Le ((WN.Vq h j).prod ((kf h j).pow _)),← dW (WN.Vq h j) ((kf h j).pow _),vJ h j,dV,NR,Pq.mul_assoc];rfl
theorem j0 {ws:List (List Tm)} (h:∀ w∈ws,WN n w):∀ (l a:List Tm),WN n a→WN n (l.foldl (fun a t=>Jp (a++Vq t.1 ws t.2 n t.2.length)) a)
 |[],_,ha=>ha
 |t::l,a,ha=>j0 h l _ (ha.app (WN.Vq h _)).norm
theorem vK {ws:List (List Tm)} (h:∀ w∈ws,WN n w):∀ (l a:List Tm) (ha:WN n a),Pq.mk (l.foldl (fun a t=>Jp (a++Vq t.1 ws t.2 n t.2.length)) a) (j0 h l a ha)=Pq.mk a ha+BP (fun ks=>NR (wsQ ws h) ks ks.length) l
 |[],_,_=>(Pq.F3 _).symm
 |t::l,a,ha=>by
  have:=vK h l (Jp (a++Vq t.1 ws t.2 n t.2.length)) (ha.app (WN.Vq h _)).norm
  simp only [bc]
  rw [this,Le (ha.app (WN.Vq h _)),← dX ha (WN.Vq h _),vJ,BP,Pq.add_assoc]
theorem WN.Yg {ws:List (List Tm)} (h:∀ w∈ws,WN n w) (l:List Tm):WN n (Yg ws n l):=j0 h l [] WN.nil
theorem Lf {ws:List (List Tm)} (h:∀ w∈ws,WN n w) (l:List Tm):Pq.mk (Yg ws n l) (WN.Yg h l)=BP (fun ks=>NR (wsQ ws h) ks ks.length) l:=by
 have:=vK h l [] WN.nil
 exact this.trans (Pq.qP _)
theorem kM (ws:List (List Tm)) (l:List Tm):Canon (Yg ws n l):=by
 have key:∀ (l a:List Tm),Canon a→Canon (l.foldl (fun a t=>Jp (a++Vq t.1 ws t.2 n t.2.length)) a):=by
  intro l
  induction l with
  |nil=>intro a h;exact h
  |cons t l ih=>intro a _;exact ih _ (ZF _)
 exact key l [] Canon.nil
theorem QA7 {ws:List (List Tm)} (h:∀ w∈ws,WN n w) (a b:List Tm):Yg ws n (Jp (a++b))=Jp (Yg ws n a++Yg ws n b):=by
 refine cq (kM _ _) (ZF _) (h:=WN.Yg h _) (k:=((WN.Yg h a).app (WN.Yg h b)).norm) ?_
 rw [Lf h,Ip,zG,Le ((WN.Yg h a).app (WN.Yg h b)),← dX (WN.Yg h a) (WN.Yg h b),Lf h,Lf h]
def Pq.ev (xs:List Rat):Pq n→Rat:=eP (fun p=>Zp xs p.1) (fun _ _ h=>vu xs h)
theorem QAr (xs:List Rat) {p:List Tm} (h:WN n p):Pq.ev xs (Pq.mk p h)=Zp xs p:=rfl
theorem cj (xs:List Rat) (x y:Pq n):Pq.ev xs (x+y)=Pq.ev xs x+Pq.ev xs y:=by
 obtain ⟨p,h,rfl⟩:=Pq.rep x;obtain ⟨q,k,rfl⟩:=Pq.rep y
 exact vv xs p q
theorem kD (xs:List Rat) (x y:Pq n):Pq.ev xs (x*y)=Pq.ev xs x*Pq.ev xs y:=by
 obtain ⟨p,h,rfl⟩:=Pq.rep x;obtain ⟨q,k,rfl⟩:=Pq.rep y
 exact kC xs h k
theorem QBI (xs:List Rat):Pq.ev xs (Pq.O:Pq n)=0:=rfl
theorem Lv (xs:List Rat) (n:Nat):∀ m,W1 1 xs (ao n 0) m=1
 |0=>rfl
 |m+1=>by rw [Vk,Lv xs n m,qK];show(1:Rat)*_^0=1;rw [bM,aM]
theorem ck (xs:List Rat) (c:Rat):Pq.ev xs (Pq.C c:Pq n)=c:=by
 show Zp xs [(c,ao n 0)]=c
 rw [Wy]
 show c*Il xs (ao n 0)+0=c
 unfold Il
 rw [Lv,aM,aY]
theorem uz (xs:List Rat) (x:Pq n):∀ i,Pq.ev xs (Pq.pw x i)=Pq.ev xs x^i
 |0=>by rw [bM];exact ck xs 1
 |i+1=>by rw [Pq.pw,kD,uz xs x i,bC]
theorem vN (xs:List Rat) {W:Nat→Pq n} {ys:List Rat} (hy:∀ i,i<ys.length→el ys i=Pq.ev xs (W i)) (ks:List Int):∀ j,j≤ys.length→Pq.ev xs (NR W ks j)=W1 1 ys ks j
 |0,_=>ck xs 1
 |j+1,hj=>by rw [NR,kD,vN xs hy ks j (by omega),uz,Vk,hy j (by omega)]
theorem QBH (xs:List Rat) {ws:List (List Tm)} (h:∀ w∈ws,WN n w) {l:List Tm} (hl:∀ t∈l,t.2.length≤ws.length):Zp xs (Yg ws n l)=Zp (ws.map (Zp xs)) l:=by
 rw [← QAr xs (WN.Yg h l),Lf h,Wy]
 induction l with
 |nil=>exact QBI xs
 |cons t l ih =>
  rw [BP,cj,kD,ck,V0,ih fun u hu=>hl u (av _ hu),vN xs (ys:=ws.map (Zp xs)) (fun i hi=>by
   rw [aG] at hi
   rw [X5 (by rw [aG];exact hi),List.getElem_map,← X5 hi];rfl) t.2 t.2.length (by rw [aG];exact hl t ai)]
  rfl
theorem pg (v:Nat) (hv:v<n) (c:Rat) (x:Pq n):Pq.D v (Pq.C c*x)=Pq.C c*Pq.D v x:=by
 rw [Pq.pe hv,Pq.D_C,Pq.F5,Pq.qP]
theorem QAz {v:Nat} (hv:v<n) (x:Pq n):∀ e,Pq.D v (Pq.pw x (e+1))=Pq.C ((e+1:Nat):Rat)*Pq.pw x e*Pq.D v x
 |0=>by
  show Pq.D v (Pq.C 1*x)=_
  rw [pg v hv,show(((0+1:Nat):Nat):Rat)=1 from rfl]
  show _=Pq.C 1*Pq.C 1*Pq.D v x
  rw [Pq.one_mul,Pq.one_mul,Pq.one_mul]
 |e+1=>by
  show Pq.D v (Pq.pw x (e+1)*x)=_
  rw [Pq.pe hv,QAz hv x e]
  have h1:(Pq.C ((e+1+1:Nat):Rat):Pq n)=Pq.C ((e+1:Nat):Rat)+Pq.C 1:=by
   rw [Pq.cA];congr 1
   exact Rat.natCast_add (e+1) 1
  show _=Pq.C ((e+1+1:Nat):Rat)*(Pq.pw x e*x)*Pq.D v x
  rw [h1,Pq.add_mul,Pq.add_mul,Pq.one_mul]
  show _+Pq.pw x e*x*Pq.D v x=_
  congr 1
  ac_rfl
def PI (f:Nat→Pq n):Nat→Pq n
 |0=>Pq.O
 |m+1=>PI f m+f m
theorem L8 (f:Nat→Pq n) (y:Pq n):∀ m,PI f m*y=PI (fun j=>f j*y) m
 |0=>Pq.F5 y
 |m+1=>by rw [PI,Pq.add_mul,L8 f y m];rfl
theorem M1 {f g:Nat→Pq n}:∀ m,(∀ j,j<m→f j=g j)→PI f m=PI g m
 |0,_=>rfl
 |m+1,h=>by rw [PI,PI,M1 m fun j hj=>h j (by omega),h m (by omega)]
theorem xT (f g:Nat→Pq n):∀ m,PI f m+PI g m=PI (fun j=>f j+g j) m
 |0=>Pq.F3 _
 |m+1=>by rw [PI,PI,PI,← xT f g m];ac_rfl
theorem gj:∀ m,PI (fun _=>(Pq.O:Pq n)) m=Pq.O
 |0=>rfl
 |m+1=>by rw [PI,gj m,Pq.F3]
theorem zC (W:Nat→Pq n) {ks:List Int} {i:Nat} {z:Int} (hi:i<ks.length):∀ j,j≤i→NR W (ks.set i z) j=NR W ks j
 |0,_=>rfl
 |j+1,hj=>by rw [NR,NR,zC W hi j (by omega),Y1 hi,if_neg (by omega)]
def dmQ (W:Nat→Pq n) (v:Nat) (ks:List Int) (m j:Nat):Pq n:=if 0<Qa ks j then Pq.C ((Qa ks j:Int):Rat)*NR W (ks.set j (Qa ks j - 1)) m*Pq.D v (W j) else Pq.O
theorem pf {v:Nat} (hv:v<n) (W:Nat→Pq n) {ks:List Int} (hn:∀ x∈ks,0≤x):∀ m,m≤ks.length→Pq.D v (NR W ks m)=PI (dmQ W v ks m) m
 |0,_=>Pq.D_C v 1
 |m+1,hm=>by
  have hd:=Sb hn m
  rw [NR,Pq.pe hv,pf hv W hn m (by omega),L8,PI]
  congr 1
  ·refine M1 m fun j hj=>?_
   unfold dmQ
   split
   ·rw [NR,Y1 (show j<ks.length by omega),if_neg (show ¬ m=j by omega)]
    ac_rfl
   ·exact Pq.F5 _
  ·unfold dmQ
   by_cases g:0<Qa ks m
   ·rw [if_pos g,NR,zC W (show m<ks.length by omega) m (ay _),Y1 (show m<ks.length by omega),if_pos rfl]
    obtain ⟨e,he⟩:∃ e:Nat,Qa ks m=((e+1:Nat):Int):=⟨(Qa ks m).toNat - 1,by omega⟩
    rw [he,show(((e+1:Nat):Int)).toNat=e+1 from rfl,QAz hv,show(((e+1:Nat):Int) - 1).toNat=e by omega]
    show _=Pq.C ((((e+1:Nat):Int)):Rat)*(NR W ks m*Pq.pw (W m) e)*Pq.D v (W m)
    rw [Rat.intCast_natCast]
    ac_rfl
   ·rw [if_neg g,show(Qa ks m).toNat=0 by omega]
    show NR W ks m*Pq.D v (Pq.C 1)=Pq.O
    rw [Pq.D_C,Pq.ux]
end
section
variable {n:Nat}
theorem vg (W:Nat→Pq n) {v j m:Nat} {t:Tm} (ht:t.2.length=m):BP (fun ks=>NR W ks ks.length) (EU j t)*Pq.D v (W j)=Pq.C t.1*dmQ W v t.2 m j:=by
 unfold EU dmQ
 by_cases g:0<Qa t.2 j
 ·rw [if_pos g,if_pos g]
  show(Pq.C (t.1*((Qa t.2 j:Int):Rat))*NR W (t.2.set j (Qa t.2 j - 1)) (t.2.set j (Qa t.2 j - 1)).length+Pq.O)*_=_
  rw [Pq.F3,ba,ht,← Pq.QA2]
  ac_rfl
 ·rw [if_neg g,if_neg g,Pq.ux];exact Pq.F5 _
theorem dT (y:Pq n) (f:Nat→Pq n) (m:Nat):y*PI f m=PI (fun j=>y*f j) m:=by
 rw [Pq.mul_comm,L8];exact M1 m fun j _=>Pq.mul_comm _ _
theorem cn {v:Nat} (hv:v<n) (W:Nat→Pq n) {m:Nat}:∀ {l:List Tm},(∀ t∈l,t.2.length=m∧∀ x∈t.2,0≤x)→Pq.D v (BP (fun ks=>NR W ks ks.length) l)=PI (fun j=>BP (fun ks=>NR W ks ks.length) (ZT j l)*Pq.D v (W j)) m
 |[],_=>by
  show Pq.D v Pq.O=_
  rw [Pq.D_O]
  exact((M1 m fun j _=>Pq.F5 _).trans (gj m)).symm
 |t::l,h=>by
  have ih:=cn hv W (l:=l) fun u hu=>h u (av _ hu)
  obtain ⟨h1,h2⟩:=h t ai
  rw [BP,Pq.QA0,pg v hv,ih,h1,pf hv W h2 m (by omega),dT,xT]
  refine M1 m fun j _=>?_
  have e:ZT j (t::l)=EU j t++ZT j l:=rfl
  rw [e,zG,Pq.add_mul,vg W h1]
theorem WN.mono {e:List Int} (hl:e.length=n) (hn:∀ x∈e,0≤x) (c:Rat):WN n [(c,e)]:=⟨fun t ht=>by rw [List.mem_singleton.1 ht];exact hl,fun t ht=>by rw [List.mem_singleton.1 ht];exact hn⟩
end
def QBf:List (List Tm):=[[(1,[1,0,0])],[(1,[0,1,0])],[(1,[0,0,1])]]
theorem zY {k v:Nat} (hv:v<k) {K:List Int} (hK:K.length=k) (h0:0≤Qa K v):∀ {l:List Tm},Zm k l→Jh (ZT v l) K=Jh l (K.set v (Qa K v+1))*((Qa K v+1:Int):Rat)
 |[],_=>by show(0:Rat)=0*_;rw [aO]
 |t::l,hw=>by
  have ih:=zY hv hK h0 (l:=l) hw.tail
  have ht:=hw t ai
  have e:ZT v (t::l)=EU v t++ZT v l:=rfl
  rw [e,Z7,ih,Jh,bT]
  congr 1
  by_cases g:t.2=K.set v (Qa K v+1)
  ·have hd:Qa t.2 v=Qa K v+1:=by rw [g,Y1 (by omega),if_pos rfl]
   rw [if_pos g]
   unfold EU
   rw [if_pos (by omega),hd]
   have hs:t.2.set v (Qa K v+1 - 1)=K:=by
    rw [g,fg,show Qa K v+1 - 1=Qa K v by omega,Xx (by omega)]
    exact ep _
   rw [hs]
   show(if K=K then _ else _)+(0:Rat)=_
   rw [if_pos rfl,aY]
  ·rw [if_neg g,aO]
   unfold EU
   split
   ·refine Y6 fun x hx=>?_
    rw [List.mem_singleton.1 hx]
    dsimp only
    intro q
    apply g
    have hd:Qa K v=Qa t.2 v - 1:=by rw [← q,Y1 (by omega),if_pos rfl]
    rw [hd,← q,fg,show Qa t.2 v - 1+1=Qa t.2 v by omega,Xx (show v<t.2.length by omega)]
    exact(ep _).symm
   ·rfl
theorem p9 {l:List Int} {v:Nat} (hv:v<l.length) (z:Int):(l.set v z).sum=l.sum - Qa l v+z:=by
 induction l generalizing v with
 |nil=>simp at hv
 |cons x l ih =>
  cases v with
  |zero=>show z+l.sum=x+l.sum - x+z;omega
  |succ v =>
   have:=ih (v:=v) (by simpa using hv)
   have d:Qa (x::l) (v+1)=Qa l v:=by simp [Qa]
   show x+(l.set v z).sum=x+l.sum - Qa (x::l) (v+1)+z
   rw [this,d];omega
theorem Bd.der {p:List Tm} {k c z v:Nat} {d:Int} (h:Bd p k c z d) (hv:v<k) (hz:1≤z) (hd:d≤12):Bd (Jp (ZT v p)) k c (z+5) (d - 1):=by
 refine⟨ZF _,(Uh h.wd).Jp,fun t ht=>?_,aq (Vl _) (aq (B7 v p) h.ln),fun t ht=>?_⟩
 ·obtain ⟨y,hy,e⟩:=Wx ht
  obtain ⟨u,hu,h0,rfl⟩:=Uf hy
  have hn:=h.nn u hu
  have hl:=h.wd u hu
  rw [← e]
  refine⟨fun x hx=>?_,?_⟩
  ·rcases bY hx with hx | rfl
   ·exact hn.1 x hx
   ·omega
  ·dsimp only;rw [p9 (by omega)];omega
 ·obtain ⟨y,hy,e⟩:=Wx ht
  obtain ⟨u,hu,h0,rfl⟩:=Uf hy
  have hn:=h.nn u hu
  have hl:=h.wd u hu
  have e:u.2.set v (Qa u.2 v - 1)=t.2:=e
  have hK:t.2.length=k:=by rw [← e,ba];exact hl
  have hdK:Qa t.2 v=Qa u.2 v - 1:=by rw [← e,Y1 (by omega),if_pos rfl]
  have hb:Qa u.2 v≤12:=by
   have:=Tq hn.1 (Qa u.2 v) (by rw [Xx (by omega)];exact bQ _)
   omega
  rw [← V1 (ZF (ZT v p)) ht,KM,zY hv hK (by omega) h.wd]
  have h1:=J9 (Jh p (t.2.set v (Qa t.2 v+1))) ((Qa t.2 v+1:Int):Rat)
  have h2:=WQ h.can h.sz hz (t.2.set v (Qa t.2 v+1))
  have h3:=Gr (Qa t.2 v+1)
  have h4:YtknegjaeoffnbaaGreatDoor.sz (Qa t.2 v+1)≤4:=(XR (Qa t.2 v+1) 4).2 (by have:(Qa t.2 v+1).natAbs≤12:=(by omega);omega)
  omega
theorem zZ {ws:List (List Tm)} {k z:Nat} {l:List Tm} (hn:∀ t∈l,(∀ x∈t.2,0≤x)∧t.2.sum≤1) (hwl:∀ t∈l,t.2.length≤ws.length) (hs:∀ t∈l,JL t.1≤z) (hws:∀ w∈ws,Bd w k 3 z 2) (hz:1≤z):∀ i,i≤l.length→Bd (Yg ws k (l.take i)) k (3*i) (1+i*(2*z+7)) 2
 |0,_=>⟨Canon.nil,fun _ h=>(by cases h),fun _ h=>(by cases h),aA _,fun _ h=>(by cases h)⟩
 |i+1,hi=>by
  have ih:=zZ hn hwl hs hws hz i (by omega)
  have hm:=JK (show i<l.length by omega)
  have hq:=hn _ hm
  have e:Yg ws k (l.take (i+1))=Jp (Yg ws k (l.take i)++Vq (el l i).1 ws (el l i).2 k (el l i).2.length):=by
   unfold Yg;rw [X7 (show i<l.length by omega),bI];rfl
  rw [e]
  have hw:∀ j,j<(el l i).2.length→Bd (el ws j) k 3 z 2:=fun j hj=>hws _ (JK (bm hj (hwl _ hm)))
  have h1:=Uk (c:=(el l i).1) (ws:=ws) (ks:=(el l i).2) (k:=k) (z:=z) hq.1 (by omega) hw (hs _ hm) hz (el l i).2.length (ay _)
  rw [ar] at h1
  have h0:=Ek hq.1
  have h2:(el l i).2.sum.toNat=0∨(el l i).2.sum.toNat=1:=by omega
  have h3:Bd (Vq (el l i).1 ws (el l i).2 k (el l i).2.length) k 3 (2*z+6) 2:=by
   rcases h2 with h2 | h2<;>rw [h2] at h1
   ·exact h1.mono (by decide) (by show z≤_;omega) (by omega)
   ·exact h1.mono (ay 3) (ay _) (by omega)
  refine(ih.add h3 (by omega) (by omega)).mono (by omega) ?_ (aW _)
  rw [bn,fy];omega
theorem y9 {s:List UInt8} {d z:Nat} (h:Nk s d=true) (hz:10^d≤2^z):JL (Jj s)≤z:=by
 simp only [Nk,aZ,decide_eq_true_eq,beq_iff_eq] at h
 obtain ⟨_,hc,h1,h2⟩:=h
 have hs:=(X6 hc).1
 generalize Jj s=x at hs
 have key:∀ n:Nat,(aj n).length≤d→n<2^z:=fun n hn=>by
  have a:=Vn (Jb n)
  rw [XI] at a
  exact bm (bm a (eD (by decide) hn)) hz
 have e:numOf (JN x)=X1 x.num:=by
  unfold numOf
  by_cases h:x.den=1
  ·obtain ⟨h1,h2⟩:=PK h
   rw [h2,ar,h1]
  ·exact(GR h).2.2.1
 rw [hs,e,zh] at h1
 have hn:sz x.num≤z:=(XR _ _).2 (key _ (by omega))
 have hd:sz (x.den:Int)≤z:=by
  refine(XR _ _).2 ?_
  rw [bH]
  by_cases g:x.den=1
  ·have:(1:Nat)≤10^d:=Nat.one_le_pow _ _ (by decide)
   have hx:d≠0:=by
    intro h0
    have:=KS x.num.natAbs
    have h3:(aj x.num.natAbs).length≠0:=fun q=>this (List.length_eq_zero_iff.1 q)
    omega
   have:1<10^d:=Nat.one_lt_pow hx (by decide)
   omega
  ·refine key _ ?_
   rw [hs] at h2
   unfold UM at h2
   rw [if_neg fun e=>g ((PL x).1 e),(GR g).2.2.2] at h2
   omega
 exact Nat.max_le.2 ⟨hn,hd⟩
theorem uY {p:Pt} {v a b:Int} {dg z:Nat} (hk:0≤v) (h:dn p v a b dg=true) (hz:10^dg≤2^z):p=ZQ (Q9 p)∧Bd (Q9 p) (v+1).toNat a.toNat z b:=by
 obtain ⟨h1,h2⟩:=cf hk h
 refine⟨h1,h2.can,h2.wd,h2.nn,h2.ln,fun t ht=>?_⟩
 unfold dn at h
 split at h
 ·cases h
 ·unfold Q9 at ht
  obtain ⟨x,hx,rfl⟩:=List.mem_map.1 ht
  rw [bL,bK] at h
  have:=h x hx
  rw [bR,aR,bj] at this
  exact y9 this.2 hz
theorem el3 {C:Nat→Prop} (h0:C 0) (h1:C 1) (h2:C 2) {j:Nat} (hj:j<3):C j:=by
 match j,hj with
 |0,_=>exact h0
 |1,_=>exact h1
 |2,_=>exact h2
section
variable {A B C:List Tm} {v:Nat}
theorem QA8 {ws:List (List Tm)} {l:List Tm} {z:Nat} (h:gM ws 3 z l) (hz:1≤z):Bd (Yg ws 3 l) 3 (9*l.length) (1+l.length*(9*z+35)) 4:=by
 have:=Uj h hz l.length (ay _)
 rwa [ar] at this
def chP (ws:List (List Tm)) (A:List Tm) (v j:Nat):List Tm:=Jp (JM (Yg ws 3 (Jp (ZT j A))) (Jp (ZT v (el ws j))))
def chS (ws:List (List Tm)) (A:List Tm) (v:Nat):Nat→List Tm
 |0=>[]
 |j+1=>Jp (chS ws A v j++chP ws A v j)
structure gP (A B C:List Tm):Prop where
 a:Bd A 3 3 14 2
 b:Bd B 3 3 14 2
 c:Bd C 3 3 14 2
theorem gP.ws (h:gP A B C):∀ w∈[A,B,C],Bd w 3 3 14 2:=fun w hw=>by
 simp only [cb,bP,or_false] at hw
 rcases hw with rfl | rfl | rfl
 ·exact h.a
 ·exact h.b
 ·exact h.c
theorem gP.el (h:gP A B C) {j:Nat} (hj:j<3):Bd (el [A,B,C] j) 3 3 14 2:=h.ws _ (JK hj)
theorem gP.outer (h:gP A B C) {j:Nat} (hj:j<3):Bd (Jp (ZT j A)) 3 3 19 1:=h.a.der hj (by decide) (by decide)
theorem gP.QAl (h:gP A B C) {j:Nat} (hj:j<3):Bd (Yg [A,B,C] 3 (Jp (ZT j A))) 3 9 136 2:=by
 have ho:=h.outer hj
 have h1:=zZ (ws:=[A,B,C]) (k:=3) (z:=19) ho.nn (fun t ht=>by rw [ho.wd t ht];exact ay _) ho.sz (fun w hw=>(h.ws w hw).mono (ay _) (by decide) (aW _)) (by decide) _ (ay _)
 rw [ar] at h1
 have h2:=ho.ln
 have:=aB (2*19+7) h2
 exact h1.mono (by omega) (by omega) (aW _)
theorem gP.inner (h:gP A B C) (hv:v<3) {j:Nat} (hj:j<3):Bd (Jp (ZT v (YtknegjaeoffnbaaGreatDoor.el [A,B,C] j))) 3 3 19 1:=(h.el hj).der hv (by decide) (by decide)
theorem gP.part (h:gP A B C) (hv:v<3) {j:Nat} (hj:j<3):Bd (chP [A,B,C] A v j) 3 27 469 3:=(h.QAl hj).mulR (h.inner hv hj) (by decide)
end
end Go.Proofs.YtknegjaeoffnbaaGreatDoor
