/- Steps of the proof of the theorem in the last file. -/
import Derived.Test.YtknegjaeoffnbaaGreatDoorQ0
import Derived.Test.YtknegjaeoffnbaaGreatDoorProg
import Derived.KernelRfl
import Derived.Lib.ItoaNum
import Derived.Lib.Atoi
import Derived.Lib.Repeat
import Derived.Lib.IndexMore
import Derived.Laws.IdiomArrays
set_option linter.all false
set_option maxHeartbeats 4000000
namespace Go.Proofs.YtknegjaeoffnbaaGreatDoor
section
theorem Xd8:YJ Tryz.prog 22=some 16:=by kernel_rfl
theorem En:GU Tryz.prog 22=true:=by kernel_rfl
theorem uf:YJ Tryz.prog 130=some 64:=by kernel_rfl
end
section
open Go
theorem Ud (n:Nat):XU (Lib.decDigits n)=true:=by
 rcases Nat.eq_zero_or_pos n with h | h
 ·subst h;rw [Ze];decide
 ·obtain ⟨c,l,e,hc⟩:=T6 h
  have:=Jb n
  rw [e] at this ⊢
  simp [XU,this,hc]
end
section
open Go.RowKit Go.ChangeShapes Go.WideShapes Ig
theorem Ow {α:Type} {f:α→List Value} {k off:Nat} {c:Array Value} (hf:∀ x,(f x).length=k):∀ (l:List α) (i0:Nat),(∀ i x,l[i]?=some x→∀ j,j<k→c[off+(i0+i)*k+j]?=(f x)[j]?)→∀ p u,(l.flatMap f)[p]?=some u→c[off+i0*k+p]?=some u
 |[],_,_,p,u,e=>by simp at e
 |x::l,i0,h,p,u,e=>by
  rw [List.flatMap_cons] at e
  rcases Nat.lt_or_ge p k with g | g
  ·rw [List.getElem?_append_left (by rw [hf];exact g)] at e
   have:=h 0 x rfl p g
   rw [Nat.add_zero] at this
   rw [this,e]
  ·rw [List.getElem?_append_right (by rw [hf];exact g),hf] at e
   have:=Ow hf l (i0+1) (fun i y hy j hj=>by
    have:=h (i+1) y (by simpa using hy) j hj
    rwa [show i0+(i+1)=i0+1+i by omega] at this) (p - k) u e
   rwa [show off+(i0+1)*k+(p - k)=off+i0*k+p by rw [Nat.add_mul,Nat.one_mul];omega] at this
theorem xe {b off n:Nat}:(⟨b,off,none⟩:Addr).add n=⟨b,off+n,none⟩:=by
 unfold Addr.add
 split
 ·rename_i h;rw [h,Nat.add_zero]
 ·rfl
section
variable {H:Type} {enc:TypeId×Value→H} {w:World}
theorem Ck {a:Addr} {n:Nat} {cs:List Value} (h:w.cells? 0 a n=some cs):cs.length=n∧∀ i,i<n→w.cell? (a.add i)=cs[i]?:=by
 unfold World.cells? at h
 rw [if_pos (Nat.zero_le _)] at h
 exact⟨by simpa using mapM_some_length h,fun i hi=>by simpa using mapM_some_get h i i (by simp [hi])⟩
theorem CZ {fuel:Nat} {cs:List Value} {x:DataW H×List MemPlace} {t e:TypeId} {sz:Nat} {α:Type} {f:α→List Value} {Q:α→Prop} (ht:Tryz.prog.underlying t=some (.slice e)) (hc:Tryz.prog.cellsOf e=sz) (h0:0<sz) (hf:∀ x,(f x).length=sz)
  (hel:∀ (n:Nat) (cs:List Value) (x:DataW H×List MemPlace),DataW.trod enc Tryz.prog w 0 (fun _=>true) true n e cs=some x→∃ y,cs=f y∧Q y)
  (hh:DataW.trod enc Tryz.prog w 0 (fun _=>true) true fuel t cs=some x) :
  ∃ (q:Option Addr) (n cap:Nat) (l:List α),cs=[.slice q n cap]∧Q4 (Wb w) q n sz (l.flatMap f)∧l.length=n∧n≤9223372036854775807∧(∀ y∈l,Q y)∧n≤cap:=by
 rcases DataW.trod_slice ht hh with ⟨e0,_⟩ | ⟨a',len,cap,elems,rest,n,_,e0,_,_,h1,h2,hlen,hg,_,_⟩
 ·exact⟨none,0,0,[],e0,Q4.nil _ _ _,rfl,Nat.zero_le _,fun y hy=>(by cases hy),Nat.le_refl _⟩
 ·subst e0
  rw [hc] at hg
  have key:∀ i,i<len→∃ y:α,w.cells? 0 (a'.add (i*sz)) sz=some (f y)∧Q y:=fun i hi=>by
   have e:=hg i hi
   rw [List.getElem?_eq_getElem (by omega),Option.bind_eq_some_iff] at e
   obtain ⟨cs,hcs,htr⟩:=e
   obtain ⟨y,rfl,hq⟩:=hel _ _ _ htr
   exact⟨y,hcs,hq⟩
  have hm:len≤9223372036854775807:=by have:=h2;unfold maxLen at this;omega
  have build:∀ m,m≤len→∃ l:List α,l.length=m∧(∀ i x,l[i]?=some x→w.cells? 0 (a'.add (i*sz)) sz=some (f x))∧∀ y∈l,Q y:=by
   intro m
   induction m with
   |zero=>exact fun _=>⟨[],rfl,fun i x e=>by simp at e,fun y hy=>by cases hy⟩
   |succ m ih =>
    intro hm'
    obtain ⟨l,hl,hx,hQ⟩:=ih (by omega)
    obtain ⟨y,hy,hq⟩:=key m (by omega)
    refine⟨l++[y],by simp [hl],fun i x e=>?_,fun z hz=>by rcases List.mem_append.1 hz with hz | hz;exact hQ z hz;rw [List.mem_singleton.1 hz];exact hq⟩
    rcases Nat.lt_or_ge i m with g | g
    ·rw [List.getElem?_append_left (by omega)] at e;exact hx i x e
    ·have:i=m:=by
      have:=(List.getElem?_eq_some_iff.1 e).1
      simp at this;omega
     subst this
     rw [List.getElem?_append_right (by omega),hl,Nat.sub_self] at e
     simp only [List.getElem?_cons_zero,Option.some.injEq] at e
     rw [← e];exact hy
  obtain ⟨l,hl,hx,hQ⟩:=build len (Nat.le_refl _)
  refine⟨some a',len,cap,l,rfl,⟨?_,fun hn=>?_⟩,hl,hm,hQ,h1⟩
  ·rw [List.length_flatMap]
   have:∀ l:List α,(l.map fun x=>(f x).length).sum=l.length*sz:=fun l=>by
    induction l with
    |nil=>simp
    |cons x l ih=>rw [List.map_cons,List.sum_cons,ih,hf,List.length_cons,Nat.add_mul];omega
   rw [this,hl]
  ·have c0:=hx 0 (l[0]'(by omega)) (List.getElem?_eq_getElem _)
   have g0:=(Ck c0).2 0 h0
   have hs:(f (l[0]'(by omega)))[0]?=some ((f (l[0]'(by omega)))[0]'(by rw [hf];exact h0)):=List.getElem?_eq_getElem _
   rw [hs,Nat.zero_mul] at g0
   have ea:(a'.add 0).add 0=a':=rfl
   rw [ea] at g0
   obtain ⟨b',off,spot⟩:=a'
   unfold World.cell? at g0
   split at g0
   ·rename_i c T fr hheap
    split at g0
    ·cases g0
    ·rename_i hsp
     have:spot=none:=by cases spot with
      |none=>rfl
      |some s=>simp at hsp
     subst this
     refine⟨b',off,c,T,rfl,by unfold Wb;rw [hheap],fun j u hu=>?_⟩
     have:=Ow (off:=off) (c:=c) hf l 0 (fun i x e j hj=>?_) j u hu
     ·rwa [Nat.zero_mul,Nat.add_zero] at this
     ·have:=(Ck (hx i x e)).2 j hj
      rw [xe,xe] at this
      unfold World.cell? at this
      rw [hheap] at this
      simpa using this
   ·cases g0
end
end
section
open Go.RowKit Ig
theorem Ca {w:World} {F:Gs} {s:List UInt8} (hF:Fits F w) (hl:s.length≤9223372036854775807):Qc Tryz.prog 175 [tx s] w F (.bool (XH s)):=by
 refine QT.intro (G:=fun _=>True) Tryz.func175 rfl (by rfl) rfl rfl hF (fun F' hF'=>trivial)<|J_sr<|JS_as rfl<|JS_nt<|QG<|J_sr<|JS_as rfl<|JS_nt<|QX<|Xa (ι:=Hv s.length (fun i=>(s.take i).all UQ=true)) (fun i=>[(0,tx s),(3,.int .i64 i.i)]) (fun _=>[]) (fun _ _=>True) (fun i=>s.length - i.i) ⟨0,Nat.zero_le _,rfl⟩ ⟨rfl,rfl,trivial⟩ subl_r (fun _ h=>trivial) (fun i=>?_)
 have hle:=i.le
 refine QG<|J_sr<|JS_mv rfl<|JS_mv rfl<|QA (XA rfl Xn)<|QA (QU rfl rfl rfl)<|QE<|QC ?_
 refine QP rfl (fun hc=>?_) (fun hc=>?_)
 ·
  have hi:i.i<s.length:=by simp at hc;omega
  clear hc
  refine QO<|QC<|QG<|QX<|J_sr<|JS_mv rfl<|JS_mv rfl<|QA (Vw rfl rfl Xn (hi))<|QA (QU rfl rfl rfl)<|JS_mv rfl ?_
  refine Qn (t:=14) rfl (fun hb14=>?_) (fun hb14=>?_)
  ·
   refine QN rfl rfl rfl<|QN rfl rfl rfl<|QN rfl rfl rfl<|QN rfl rfl rfl<|QA (Qj rfl rfl rfl)<|JS_nt<|Wu rfl<|J_sr<|JS_as rfl<|JS_nt<|QS ?_
   repeat (first | refine JE ?_ | refine Q3 ?_)
   exact QR () rfl (.tmp rfl .nil) (congrArg Value.bool (by rw [Rq hi (by have h1:=dec_t hb14;cases hd:UQ s[i.i] with | false=>rfl | true=>(have:=Ye.1 hd;omega))])) (fun _ _=>trivial)
  ·
   refine QJ rfl rfl<|JS_mv rfl<|QJ rfl rfl<|JS_mv rfl<|QJ rfl rfl<|QA (Vw rfl rfl Xn (hi))<|QJ rfl rfl<|QA (QU rfl rfl rfl)<|QA (Qh rfl rfl rfl)<|QE<|QC ?_
   refine QP rfl (fun hc=>?_) (fun hc=>?_)
   ·
    refine J_sr<|JS_as rfl<|JS_nt<|QS ?_
    repeat (first | refine JE ?_ | refine Q3 ?_)
    exact QR () rfl (.tmp rfl .nil) (congrArg Value.bool (by rw [Rq hi (by have h1:=dec_t hc;cases hd:UQ s[i.i] with | false=>rfl | true=>(have:=Ye.1 hd;omega))])) (fun _ _=>trivial)
   ·
    refine QO<|Qk<|QC<|QB<|JS_mv rfl<|QA (Qp rfl rfl (by omega))<|JS_as rfl<|QE ?_
    exact Ql (⟨i.i+1,by omega,Dt hi i.h (Ye.2 (by have h1:=dec_f hb14;have h2:=dec_f hc;constructor<;>omega))⟩:Hv s.length (fun i=>(s.take i).all UQ=true)) (by show s.length - (i.i+1)<s.length - i.i;omega) ⟨rfl,rfl,trivial⟩ subl_r (fun _ h=>trivial)
 ·
  refine Qy ?_
  repeat (first | refine QZ ?_ | refine QV (by rfl) ?_)
  refine Qa<|QC<|J_sr<|JS_as rfl<|JS_nt<|QS ?_
  exact QR () rfl (.tmp rfl .nil) (congrArg Value.bool (by have e:=i.h;rw [List.take_of_length_le (by simp at hc;omega)] at e;exact e)) (fun _ _=>trivial)
theorem gO {s:List UInt8} (h1:(1:Int)<(s.length:Int)) (h:s[0]'(by omega)=48):XU s=false:=by
 cases s with
 |nil=>simp at h1
 |cons c r =>
  have hc:c=48:=h
  subst hc
  have hr:r≠[]:=by intro e;subst e;simp at h1
  simp [XU,hr]
theorem kN {s:List UInt8} (h1:(1:Int)<(s.length:Int)) (h:¬ s[0]'(by omega)=48):XU s=XH s:=by
 cases s with
 |nil=>simp at h1
 |cons c r =>
  have hc:¬ c=48:=h
  simp [XU,hc]
theorem gN {s:List UInt8} (h0:0<s.length) (h1:s.length≤1):XU s=XH s:=by
 match s,h0,h1 with
 |[c],_,_ =>
  by_cases hc:c=48
  ·subst hc;rfl
  ·simp [XU,hc]
theorem yi {w:World} {F:Gs} {s:List UInt8} (hF:Fits F w) (hl:s.length≤9223372036854775807):Qc Tryz.prog 118 [tx s] w F (.bool (XU s)):=by
 refine QT.intro (G:=fun _=>True) Tryz.func118 rfl (by rfl) rfl rfl hF (fun F' hF'=>trivial)<|J_sr<|JS_as rfl<|JS_nt<|QG<|J_sr<|JS_mv rfl<|QA (XA rfl Xn)<|QA (QU rfl rfl rfl)<|JS_mv rfl ?_
 refine Qn (t:=6) rfl (fun hb6=>?_) (fun hb6=>?_)
 ·
  refine QN rfl rfl rfl<|QN rfl rfl rfl<|QN rfl rfl rfl<|QN rfl rfl rfl<|JU rfl rfl<|JU rfl rfl<|JU rfl rfl<|QN rfl rfl rfl<|QA (Qj rfl rfl rfl)<|JS_nt<|Wu rfl<|J_sr<|JS_as rfl<|JS_nt<|QS ?_
  exact QR () rfl (.tmp rfl .nil) (congrArg Value.bool (by have h0:s=[]:=(by simpa using hb6);subst h0;rfl)) (fun _ _=>trivial)
 ·
  refine QJ rfl rfl<|JS_mv rfl<|QJ rfl rfl<|QA (XA rfl Xn)<|QJ rfl rfl<|QA (QU rfl rfl rfl)<|QJ rfl rfl<|JS_mv rfl ?_
  refine Qn (t:=10) rfl (fun hb10=>?_) (fun hb10=>?_)
  ·
   refine QJ rfl rfl<|JS_mv rfl<|QJ rfl rfl<|QA (Vw (i:=0) rfl rfl Xn (by have:=dec_t hb10;omega))<|QJ rfl rfl<|QA (QU rfl rfl rfl)<|QJ rfl rfl<|QA (Qj rfl rfl rfl)<|QA (Qh rfl rfl rfl)<|QE<|QC ?_
   refine QP rfl (fun hc=>?_) (fun hc=>?_)
   ·
    refine J_sr<|JS_as rfl<|JS_nt<|QS ?_
    exact QR () rfl (.tmp rfl .nil) (congrArg Value.bool (gO (dec_t hb10) (by have h:=hc;rw [Em (d:=48) (z:=48) rfl] at h;simpa using h))) (fun _ _=>trivial)
   ·
    refine QO<|QC<|J_sr<|JS_mv rfl<|QH rfl (fun w F hF _=>Ca hF hl) (fun _=>JS_as rfl<|JS_nt<|QS ?_)
    exact QR () rfl (.tmp rfl .nil) (congrArg Value.bool (kN (dec_t hb10) (by have h:=hc;rw [Em (d:=48) (z:=48) rfl] at h;simpa using h))) (fun _ _=>trivial)
  ·
   refine QN rfl rfl rfl<|QN rfl rfl rfl<|QN rfl rfl rfl<|QJ rfl rfl<|QA (Qh rfl rfl rfl)<|QA (Qh rfl rfl rfl)<|JS_nt<|YF rfl<|QO<|QC<|J_sr<|JS_mv rfl<|QH rfl (fun w F hF _=>Ca hF hl) (fun _=>JS_as rfl<|JS_nt<|QS ?_)
   exact QR () rfl (.tmp rfl .nil) (congrArg Value.bool (gN (List.length_pos_iff.2 (by simpa using hb6)) (by have h:=dec_f hb10;omega))) (fun _ _=>trivial)
end
section
open Go.RowKit Ig
def zT (s:List UInt8):List UInt8:=if Nv s<0 then s.drop 1 else if Nv s=0 then s else 45::s
def Wi (s:List UInt8):Int:=if(decide (600<(CT (numOf s)).length)||decide (600<(UU s).length))=true then 4 else 0
theorem Bz (p:UInt8→Bool) (s:List UInt8):ahead p s≤s.length:=(List.takeWhile_sublist _).length_le
theorem Ap {s:List UInt8} (h:Nv s<0):0<s.length:=by
 cases s with
 |nil=>exact absurd h (by decide)
 |cons=>simp
theorem LG {w:World} {F:Gs} {s:List UInt8} (hF:Fits F w):Qc Tryz.prog 38 [tx s] w F (.int .i64 (Nv s)):=by
 refine QT.intro (G:=fun _=>True) Tryz.func38 rfl (by rfl) rfl rfl hF (fun F' hF'=>trivial)<|J_sr<|JS_as rfl<|JS_nt<|QG<|J_sr<|JS_mv rfl<|QA (KY rfl rfl)<|QE<|QC ?_
 refine QP rfl (fun hc4=>?_) (fun hc4=>?_)
 ·
  refine J_sr<|JS_as rfl<|JS_nt<|QS ?_
  exact QR () rfl (.tmp rfl .nil) (congrArg (Value.int .i64) (by unfold Nv;rw [if_pos (by simpa using hc4)])) (fun _ _=>trivial)
 ·
  refine QO<|QC<|QG<|J_sr<|JS_mv rfl<|QA (XA rfl En)<|QA (QU rfl rfl rfl)<|JS_mv rfl ?_
  refine Qn (t:=8) rfl (fun hb8=>?_) (fun hb8=>?_)
  ·
   refine QJ rfl rfl<|JS_mv rfl<|QJ rfl rfl<|QA (Vw (i:=0) rfl rfl En (by have:=dec_t hb8;omega))<|QJ rfl rfl<|QA (QU rfl rfl rfl)<|QA (Qj rfl rfl rfl)<|QE<|QC ?_
   refine QP rfl (fun hc=>?_) (fun hc=>?_)
   ·
    refine J_sr<|JS_as rfl<|JS_nt<|QS ?_
    exact QR () rfl (.tmp rfl .nil) (congrArg (Value.int .i64) (by unfold Nv;rw [if_neg (by simpa using hc4),if_pos];rw [W6 (by have:=dec_t hb8;omega),← Em (z:=45) rfl];exact hc)) (fun _ _=>trivial)
   ·
    refine QO<|QC<|J_sr<|JS_as rfl<|JS_nt<|QS ?_
    exact QR () rfl (.tmp rfl .nil) (congrArg (Value.int .i64) (by unfold Nv;rw [if_neg (by simpa using hc4),if_neg];rw [W6 (by have:=dec_t hb8;omega),← Em (z:=45) rfl,hc];decide)) (fun _ _=>trivial)
  ·
   refine QN rfl rfl rfl<|QN rfl rfl rfl<|QN rfl rfl rfl<|QA (Qh rfl rfl rfl)<|JS_nt<|YF rfl<|QO<|QC<|J_sr<|JS_as rfl<|JS_nt<|QS ?_
   exact QR () rfl (.tmp rfl .nil) (congrArg (Value.int .i64) (by have h0:s=[]:=(by have:=hb8;simp at this;exact this);subst h0;rfl)) (fun _ _=>trivial)
theorem uI {w:World} {F:Gs} {s:List UInt8} (hF:Fits F w) (hl:s.length≤1000000000):Qc Tryz.prog 35 [tx s] w F (tx (zT s)):=by
 refine QT.intro (G:=fun _=>True) Tryz.func35 rfl (by rfl) rfl rfl hF (fun F' hF'=>trivial)<|J_sr<|JS_as rfl<|JS_nt<|QG<|J_sr<|JS_mv rfl<|QH rfl (fun w F hF _=>LG hF ) (fun _=>QA (QU rfl rfl rfl)<|QE<|QC ?_)
 refine QP rfl (fun hc5=>?_) (fun hc5=>?_)
 ·
  refine J_sr<|JS_mv rfl<|QA (Kr 1 rfl rfl En rfl (Ap (dec_t hc5)))<|JS_as rfl<|JS_nt<|QS ?_
  exact QR () rfl (.tmp rfl .nil) (congrArg tx (by unfold zT;rw [if_pos (dec_t hc5)])) (fun _ _=>trivial)
 ·
  refine QO<|QC<|QG<|J_sr<|JS_mv rfl<|QH rfl (fun w F hF h9=>LG hF ) (fun _=>QA (QU rfl rfl rfl)<|QE<|QC ?_)
  refine QP rfl (fun hc10=>?_) (fun hc10=>?_)
  ·
   refine J_sr<|JS_mv rfl<|JS_as rfl<|JS_nt<|QS ?_
   exact QR () rfl (.tmp rfl .nil) (congrArg tx (by unfold zT;rw [if_neg (dec_f hc5),if_pos (by simpa using hc10)])) (fun _ _=>trivial)
  ·
   refine QO<|QC<|J_sr<|JS_mv rfl<|QA (Zf rfl rfl (by simp;omega))<|JS_as rfl<|JS_nt<|QS ?_
   exact QR () rfl (.tmp rfl .nil) (congrArg tx (by unfold zT;rw [if_neg (dec_f hc5),if_neg (by simpa using hc10)];rfl)) (fun _ _=>trivial)
theorem zC {w:World} {F:Gs} {s:List UInt8} (hF:Fits F w):Qc Tryz.prog 33 [tx s] w F (tx (CT s)):=by
 refine QT.intro (G:=fun _=>True) Tryz.func33 rfl (by rfl) rfl rfl hF (fun F' hF'=>trivial)<|J_sr<|JS_as rfl<|JS_nt<|QG<|J_sr<|JS_mv rfl<|QH rfl (fun w F hF _=>LG hF ) (fun _=>QA (QU rfl rfl rfl)<|QE<|QC ?_)
 refine QP rfl (fun hc=>?_) (fun hc=>?_)
 ·
  refine J_sr<|JS_mv rfl<|QA (Kr 1 rfl rfl En rfl (Ap (dec_t hc)))<|JS_as rfl<|JS_nt<|QS ?_
  exact QR () rfl (.tmp rfl .nil) (congrArg tx (by unfold CT;rw [if_pos (dec_t hc)])) (fun _ _=>trivial)
 ·
  refine QO<|QC<|J_sr<|JS_mv rfl<|JS_as rfl<|JS_nt<|QS ?_
  exact QR () rfl (.tmp rfl .nil) (congrArg tx (by unfold CT;rw [if_neg (dec_f hc)])) (fun _ _=>trivial)
theorem dU {w:World} {F:Gs} {s:List UInt8} (hF:Fits F w):Qc Tryz.prog 94 [tx s] w F (.bool (s==[48])):=by
 refine QT.intro (G:=fun _=>True) Tryz.func94 rfl (by rfl) rfl rfl hF (fun F' hF'=>trivial)<|J_sr<|JS_as rfl<|JS_nt<|J_sr<|JS_mv rfl<|QA (KY rfl rfl)<|JS_as rfl<|JS_nt<|QS ?_
 exact QR () rfl (.tmp rfl .nil) (rfl) (fun _ _=>trivial)
theorem x6 {w:World} {F:Gs} {s:List UInt8} (hF:Fits F w) (hl:s.length≤1000000000):Qc Tryz.prog 204 [tx s] w F (tx (numOf s)):=by
 refine QT.intro (G:=fun _=>True) Tryz.func204 rfl (by rfl) rfl rfl hF (fun F' hF'=>trivial)<|J_sr<|JS_as rfl<|JS_nt<|J_sr<|JS_mv rfl<|JS_mv rfl<|QH rfl (fun w F hF _=>D0 hF (Nat.le_trans hl (by decide))) (fun _=>QA (Ha (ahead XY s) rfl rfl En rfl (Bz _ _))<|JS_as rfl<|JS_nt<|QS ?_)
 exact QR () rfl (.tmp rfl .nil) (rfl) (fun _ _=>trivial)
theorem zA {w:World} {F:Gs} {s:List UInt8} (hF:Fits F w) (hl:s.length≤1000000000):Qc Tryz.prog 205 [tx s] w F (tx (UU s)):=by
 refine QT.intro (G:=fun _=>True) Tryz.func205 rfl (by rfl) rfl rfl hF (fun F' hF'=>trivial)<|J_sr<|JS_as rfl<|JS_nt<|J_sr<|JS_mv rfl<|QH rfl (fun w F hF _=>D0 hF (Nat.le_trans hl (by decide))) (fun _=>JS_as rfl<|JS_nt<|QG<|J_sr<|JS_mv rfl<|JS_mv rfl<|QA (XA rfl En)<|QA (QU rfl rfl rfl)<|QE<|QC ?_)
 refine QP rfl (fun hc=>?_) (fun hc=>?_)
 ·
  refine J_sr<|JS_as rfl<|JS_nt<|QS ?_
  exact QR () rfl (.tmp rfl .nil) (congrArg tx (by unfold UU;rw [if_pos (by simp at hc;omega)])) (fun _ _=>trivial)
 ·
  refine QO<|QC<|J_sr<|JS_mv rfl<|JS_mv rfl<|QA (Qp rfl rfl (by have:=Bz XY s;omega))<|QA (Kr (ahead XY s+1) rfl rfl En rfl (by have:=Bz XY s;simp at hc;omega))<|JS_as rfl<|JS_nt<|QS ?_
  exact QR () rfl (.tmp rfl .nil) (congrArg tx (by unfold UU;rw [if_neg (by simp at hc;omega)])) (fun _ _=>trivial)
theorem jx {w:World} {F:Gs} {s:List UInt8} (hF:Fits F w) (hl:s.length≤1000000000):Qc Tryz.prog 124 [tx s] w F (.int .i64 (Wi s)):=by
 refine QT.intro (G:=fun _=>True) Tryz.func124 rfl (by rfl) rfl rfl hF (fun F' hF'=>trivial)<|J_sr<|JS_as rfl<|JS_nt<|QG<|J_sr<|JS_mv rfl<|QH rfl (fun w F hF _=>x6 hF hl) (fun _=>QH rfl (fun w F hF h9=>zC hF ) (fun _=>QA (XA rfl En)<|QA (QU rfl rfl rfl)<|JS_mv rfl ?_))
 refine Qn (t:=8) rfl (fun hb8=>?_) (fun hb8=>?_)
 ·
  refine QN rfl rfl rfl<|QN rfl rfl rfl<|QN rfl rfl rfl<|QN rfl rfl rfl<|QA (Qj rfl rfl rfl)<|JS_nt<|Wu rfl<|J_sr<|JS_as rfl<|JS_nt<|QS ?_
  exact QR () rfl (.tmp rfl .nil) (congrArg (Value.int .i64) (by have h:=dec_t hb8;unfold Wi;rw [if_pos (by rw [decide_eq_true (by omega)];rfl)])) (fun _ _=>trivial)
 ·
  refine QJ rfl rfl<|JS_mv rfl<|QJ rfl rfl<|QH rfl (fun w F hF h9=>zA hF hl) (fun _=>QJ rfl rfl<|QA (XA rfl En)<|QJ rfl rfl<|QA (QU rfl rfl rfl)<|QA (Qh rfl rfl rfl)<|QE<|QC ?_)
  refine QP rfl (fun hc=>?_) (fun hc=>?_)
  ·
   refine J_sr<|JS_as rfl<|JS_nt<|QS ?_
   exact QR () rfl (.tmp rfl .nil) (congrArg (Value.int .i64) (by have h:=dec_t hc;unfold Wi;rw [if_pos (by rw [decide_eq_true (show 600<(UU s).length by omega),Bool.or_true])])) (fun _ _=>trivial)
  ·
   refine QO<|QC<|J_sr<|JS_as rfl<|JS_nt<|QS ?_
   exact QR () rfl (.tmp rfl .nil) (congrArg (Value.int .i64) (by have h:=dec_f hc;have h8:=dec_f hb8;unfold Wi;rw [if_neg (by rw [decide_eq_false (by omega),decide_eq_false (by omega)];decide)])) (fun _ _=>trivial)
end
section
open Go.RowKit Ig
theorem k7 {d:Nat} (h:d<10):(([48,49,50,51,52,53,54,55,56,57]:List UInt8).take (d+1)).drop d=[UInt8.ofNat (48+d)]:=by
 match d,h with
 |0,_=>rfl
 |1,_=>rfl
 |2,_=>rfl
 |3,_=>rfl
 |4,_=>rfl
 |5,_=>rfl
 |6,_=>rfl
 |7,_=>rfl
 |8,_=>rfl
 |9,_=>rfl
theorem zB {w:World} {F:Gs} {n least:Nat} (hF:Fits F w) (hn:n≤9223372036854775807) (hl:least≤1000):Qc Tryz.prog 182 [.int .i64 (n:Int),.int .i64 (least:Int)] w F (tx (Nt n least)):=by
 refine QT.intro (G:=fun _=>True) Tryz.func182 rfl (by rfl) rfl rfl hF (fun F' hF'=>trivial)<|J_sr<|JS_as rfl<|JS_nt<|J_sr<|JS_as rfl<|JS_nt<|QG<|QX<|Xa (ι:=CU n least) (fun i=>[(0,.int .i64 (i.m:Int)),(1,.int .i64 (least:Int)),(5,tx i.t)]) (fun _=>[]) (fun _ _=>True) (fun i=>i.m+(least - i.t.length)) ⟨n,[],Nat.le_refl _,by unfold Nt;simp,by have:=Oo hn;simp;omega⟩ ⟨rfl,rfl,rfl,trivial⟩ subl_r (fun _ h=>trivial) (fun i=>?_)
 have hle:=i.le
 have htl:=i.tl
 refine QG<|J_sr<|JS_mv rfl<|QA (QU rfl rfl rfl)<|JS_mv rfl ?_
 refine Qn (t:=8) rfl (fun hb8=>?_) (fun hb8=>?_)
 ·
  refine QN rfl rfl rfl<|QN rfl rfl rfl<|QN rfl rfl rfl<|QN rfl rfl rfl<|QA (Qj rfl rfl rfl)<|JS_nt<|Wu rfl<|QO<|QC<|QX<|J_sr<|JS_mv rfl<|QA (VH rfl rfl (by omega) (by omega))<|JS_mv rfl<|QA (VH rfl rfl (by omega) (by omega))<|QA (Qp rfl rfl (by omega))<|QA (Mx (i.m%10) (i.m%10+1) rfl rfl rfl Xn (.inr rfl) (.inr rfl) (by omega) (by show i.m%10+1≤10;omega)) ?_
  rw [k7 (Nat.mod_lt _ (by decide))]
  refine JS_mv rfl<|QA (Zf rfl rfl (by simp;omega))<|JS_as rfl<|JS_nt<|QB<|JS_mv rfl<|QA (Wh rfl rfl (by omega) (by omega) (by omega))<|JS_as rfl<|QE<|Qk ?_
  exact Ql (CU.next i (Or.inl (by have:=dec_t hb8;omega):0<i.m∨i.t.length<least)) (by show i.m / 10+(least - (i.t.length+1))<i.m+(least - i.t.length);rcases (Or.inl (by have:=dec_t hb8;omega):0<i.m∨i.t.length<least) with g | g<;>omega) ⟨rfl,rfl,rfl,trivial⟩ subl_r (fun _ h=>trivial)
 ·
  refine QJ rfl rfl<|JS_mv rfl<|QJ rfl rfl<|QA (XA rfl Xn)<|QJ rfl rfl<|JS_mv rfl<|QJ rfl rfl<|QA (QU rfl rfl rfl)<|QA (Qh rfl rfl rfl)<|QE<|QC ?_
  refine QP rfl (fun hc=>?_) (fun hc=>?_)
  ·
   refine QO<|QC<|QX<|J_sr<|JS_mv rfl<|QA (VH rfl rfl (by omega) (by omega))<|JS_mv rfl<|QA (VH rfl rfl (by omega) (by omega))<|QA (Qp rfl rfl (by omega))<|QA (Mx (i.m%10) (i.m%10+1) rfl rfl rfl Xn (.inr rfl) (.inr rfl) (by omega) (by show i.m%10+1≤10;omega)) ?_
   rw [k7 (Nat.mod_lt _ (by decide))]
   refine JS_mv rfl<|QA (Zf rfl rfl (by simp;omega))<|JS_as rfl<|JS_nt<|QB<|JS_mv rfl<|QA (Wh rfl rfl (by omega) (by omega) (by omega))<|JS_as rfl<|QE<|Qk ?_
   exact Ql (CU.next i (Or.inr (by have:=dec_t hc;omega):0<i.m∨i.t.length<least)) (by show i.m / 10+(least - (i.t.length+1))<i.m+(least - i.t.length);rcases (Or.inr (by have:=dec_t hc;omega):0<i.m∨i.t.length<least) with g | g<;>omega) ⟨rfl,rfl,rfl,trivial⟩ subl_r (fun _ h=>trivial)
  ·
   refine Qy ?_
   repeat (first | refine QZ ?_ | refine QV (by rfl) ?_)
   refine Qa<|QC<|J_sr<|JS_mv rfl<|JS_as rfl<|JS_nt<|QS ?_
   exact QR () rfl (.tmp rfl .nil) (congrArg tx (by have h1:=dec_f hb8;have h2:=dec_f hc;have h0:i.m=0:=(by omega);rw [← i.h,h0];simp [hd,VW,show least - i.t.length=0 by omega,Lib.repeatL])) (fun _ _=>trivial)
end
section
open Go.RowKit Ig
theorem dQ {a b out:List Int} {c:Int} (da:DG B9 out) (hl:out.length=a.length) (hb:b.length≤a.length) (h:dv B9 out+dv B9 (b.take a.length)=dv B9 (a.take a.length)+B9^a.length*c) (h0:0≤c) (h1:c≤1) (hle:dv B9 b≤dv B9 a):dv B9 out=dv B9 a - dv B9 b:=by
 rw [List.take_length,List.take_of_length_le hb] at h
 have hlt:=Z1 (b:=B9) (by decide) da
 rw [hl] at hlt
 have hc:c=0∨c=1:=by omega
 rcases hc with rfl | rfl
 ·rw [Int.mul_zero] at h;omega
 ·rw [Int.mul_one] at h;omega
theorem Au {w:World} {F:Gs} {ra rb:Sr} {a b:List Int} (hF:Fits F w) (hA:JL F ra a) (hB:JL F rb b) (da:DG B9 a) (db:DG B9 b) (la:a.length≤100000000) (lb:b.length≤a.length) (hle:dv B9 b≤dv B9 a) :
  Ma Tryz.prog 239 [ra.v,rb.v] w F (fun l=>dv B9 l=dv B9 a - dv B9 b∧NZ l∧l.length≤a.length):=by
 obtain ⟨q,n,c⟩:=ra
 have na:=hA.2.1
 have nb:=hB.2.1
 dsimp only at na
 have h9:B9=1000000000:=rfl
 refine QT.intro (G:=fun F=>JL F ⟨q,n,c⟩ a∧JL F rb b) Tryz.func239 rfl (by rfl) rfl rfl hF (fun F' hF'=>⟨hA.le hF',hB.le hF'⟩) ?_
 dsimp only [Sr.v]
 refine J_sr<|JS_as rfl<|JS_nt<|J_sr<|JS_as rfl<|JS_nt<|J_sr<|JS_as rfl<|JS_nt<|QG<|J_sr<|JS_as rfl<|JS_nt<|QX ?_
 refine Xa (ι:=pW a b) (fun i=>[(0,.slice q n c),(1,.slice rb.q rb.n rb.cap),(5,i.v),(6,.int .i64 i.borrow),(7,.int .i64 (i.i:Int))]) (fun i=>i.ob) (fun _ F=>JL F ⟨q,n,c⟩ a∧JL F rb b) (fun i=>a.length - i.i)
  ⟨0,[],0,.slice none 0 0,[],Nat.zero_le _,rfl,DG.nil _,by decide,by decide,by simp,.nil⟩ ⟨rfl,rfl,rfl,rfl,rfl,trivial⟩ (List.nil_sublist _) (fun _ h=>h) (fun i=>?_)
 have hile:=i.le
 have hlen:=i.len
 have hc0:=i.c0
 have hc1:=i.c1
 refine QG<|J_sr<|JS_mv rfl<|JS_mv rfl<|QA (Qi rfl Qd)<|QA (QU rfl rfl rfl)<|QE<|QC ?_
 refine QP rfl (fun hc=>?_) (fun hc=>?_)
 ·
  have hi:i.i<n:=by have:=dec_t hc;omega
  have hia:i.i<a.length:=by omega
  have b1:=R6 da i.i
  have b2:=R6 db i.i
  have e1:a[i.i]=a.getD i.i 0:=by simp [hia]
  refine X3 _ (fun w F hF h=>h.1.1.ptr (by dsimp only;omega)) (fun hq=>?_)
  obtain ⟨qb,qo,hq⟩:=hq
  dsimp only at hq
  subst hq
  refine QO<|QC<|QG<|QX<|QG<|JR subl_r mixed (by kernel_rfl)<|QM (QD rfl)<|QM (QD rfl)<|QM (Qw (i:=i.i) rfl rfl Qd Qs (by omega))<|QM (XX (n:=n) (sz:=1) (cs:=a.map Qx) (u:=.int .i64 (a.getD i.i 0)) rfl Qs (fun F h=>h.1.1) (by omega) (by simp [hia,Qx]))<|QM (QD rfl)<|QM (QD rfl)<|Qg rfl (fun w F hF h9=>Pa (r:=rb) (l:=b) hF h9.2 (by omega)) (fun _=>QM (J7 rfl rfl (by omega))<|QM (QD rfl)<|QM (J7 rfl rfl (by omega))<|QM (QF rfl)<|Q9<|QC<|J_sr<|JS_as rfl<|JS_nt<|QG ?_)
  refine J_sr<|JS_mv rfl<|QA (QU rfl rfl rfl)<|QE<|QC ?_
  refine QP rfl (fun hs=>?_) (fun hs=>?_)
  ·
   refine J_sr<|JS_mv rfl<|QA (Qp rfl rfl (by omega))<|JS_as rfl<|JS_nt<|QB<|JS_as rfl<|JS_nt<|QB<|JS_mv rfl<|JS_mv rfl<|QW rfl (Q7 Qd) Qs Vj rfl rfl (fun b31=>?_)
   refine VT (bs1:=[]) (ob:=i.ob) (k:=1) (sz:=1) (news:=[.int .i64 ((a.getD i.i 0 - b.getD i.i 0 - i.borrow)+1000000000)]) rfl rfl Qd Qs Vj rfl Db i.hr (Src.row (off:=0) (fun F h=>h.2) (fun j v hv=>by rw [Nat.zero_add];show([Value.int .i64 ((a.getD i.i 0 - b.getD i.i 0 - i.borrow)+1000000000)].toArray)[j]?=some v;rw [List.getElem?_toArray];exact hv) rfl) (by omega) (by omega) (fun u hu=>by rw [List.mem_singleton.1 hu];rfl) (fun v' ob' hr'=>?_)
   refine JS_as rfl<|QE<|Qk<|QC<|QB<|JS_mv rfl<|QA (Qp rfl rfl (by omega))<|JS_as rfl<|QE ?_
   exact Ql (⟨i.i+1,i.out++[((a.getD i.i 0 - b.getD i.i 0 - i.borrow)+1000000000)],1,v',ob',by omega,by simp [hlen],i.dg.append (DG.cons (by have:=dec_t hs;omega) (by have:=dec_t hs;rw [h9];omega) (DG.nil _)),by decide,by decide,vB hlen i.h (by rw [h9];omega),by simpa [Qx] using hr'⟩:pW a b) (by show a.length - (i.i+1)<a.length - i.i;omega) ⟨rfl,rfl,rfl,rfl,rfl,trivial⟩ subl_r (fun F h=>h.1.1)
  ·
   refine QO<|QC<|QB<|JS_mv rfl<|JS_mv rfl<|QW rfl (Q7 Qd) Qs Vj rfl rfl (fun b31=>?_)
   refine VT (bs1:=[]) (ob:=i.ob) (k:=1) (sz:=1) (news:=[.int .i64 (a.getD i.i 0 - b.getD i.i 0 - i.borrow)]) rfl rfl Qd Qs Vj rfl Db i.hr (Src.row (off:=0) (fun F h=>h.2) (fun j v hv=>by rw [Nat.zero_add];show([Value.int .i64 (a.getD i.i 0 - b.getD i.i 0 - i.borrow)].toArray)[j]?=some v;rw [List.getElem?_toArray];exact hv) rfl) (by omega) (by omega) (fun u hu=>by rw [List.mem_singleton.1 hu];rfl) (fun v' ob' hr'=>?_)
   refine JS_as rfl<|QE<|Qk<|QC<|QB<|JS_mv rfl<|QA (Qp rfl rfl (by omega))<|JS_as rfl<|QE ?_
   exact Ql (⟨i.i+1,i.out++[(a.getD i.i 0 - b.getD i.i 0 - i.borrow)],0,v',ob',by omega,by simp [hlen],i.dg.append (DG.cons (by have:=dec_f hs;omega) (by have:=dec_f hs;rw [h9];omega) (DG.nil _)),by decide,by decide,vB hlen i.h (by rw [h9];omega),by simpa [Qx] using hr'⟩:pW a b) (by show a.length - (i.i+1)<a.length - i.i;omega) ⟨rfl,rfl,rfl,rfl,rfl,trivial⟩ subl_r (fun F h=>h.1.1)
 ·
  refine Qy ?_
  repeat (first | refine QZ ?_ | refine QV (by rfl) ?_)
  refine Qa<|QC<|QG ?_
  obtain ⟨r,hv,hrn,hrc,hfix⟩:=Qz.fix (w0:=w) (F0:=F) (bs1:=[]) (G:=fun F=>JL F ⟨q,n,c⟩ a∧JL F rb b) i.hr
  have hex:i.i=a.length:=by have:=dec_f hc;omega
  have hlz:=Xy i.out
  refine UY hfix ?_
  rw [hv]
  refine QB<|JS_mv rfl<|QH rfl (fun w F hF h9=>Wn (r:=r) (l:=i.out) hF ⟨by rw [hrn];exact h9.2,hrn.symm,by omega⟩ (by omega)) (fun c34=>JS_as rfl<|JS_nt<|QS ?_)
  exact QR ((⟨r.q,(Q2 i.out).length,r.cap⟩,Q2 i.out):Sr×List Int) rfl (.tmp rfl .nil) rfl (fun F h=>⟨h.2,i.dg.Q2,by show dv B9 (Q2 i.out)=_;rw [XB];exact dQ i.dg (by omega) lb (by have e:=i.h;rw [hex] at e;exact e) hc0 hc1 hle,Xh _,by show(Q2 i.out).length≤_;omega⟩)
end
section
open Go.RowKit Ig
section
variable {P:Program} {N:Nat} {m:Sl} {S:World→Prop} {ty:TypeId}
def Cl (P:Program) (T:TypeId):Bool:=match P.underlying T with
 |some .bool=>true
 |_=>false
theorem pU {T:TypeId} (h:Cl P T=true):P.underlying T=some .bool:=by
 unfold Cl at h;split at h
 ·assumption
 ·cases h
theorem Lr {T:TypeId} (hT:Cl P T=true) (a b:Bool) (w:World):(Op.equal T (.bool a) (.bool b)).run P w = .ok (a==b) w:=by
 have e:∃ n,Op.maxDepth=n+1:=⟨Op.maxDepth - 1,by decide⟩
 obtain ⟨n,e⟩:=e
 unfold Op.equal
 rw [e]
 unfold Op.equalIn
 simp [run_underlying (pU hT)]
theorem uP {T yT:TypeId} {x y:Operand} {a b:Bool} (hT:Cl P T=true) (hx:ev m x=some (.bool a)) (hy:ev m y=some (.bool b)):Qt P N m S (.binOp .eql T x y yT) ty (.bool (a==b)):=fun s w _ _ _ _ ha _=>by
 simp only [execOp,ha.ev hx,ha.ev hy,eqGuard,binOp,Sem.run_bind,Sem.run_pure,Result.andThen_ok,Lr hT]
 rfl
theorem uO {T yT:TypeId} {x y:Operand} {a b:Bool} (hT:Cl P T=true) (hx:ev m x=some (.bool a)) (hy:ev m y=some (.bool b)):Qt P N m S (.binOp .neq T x y yT) ty (.bool (!(a==b))):=fun s w _ _ _ _ ha _=>by
 simp only [execOp,ha.ev hx,ha.ev hy,eqGuard,binOp,Sem.run_bind,Sem.run_pure,Result.andThen_ok,Lr hT]
 rfl
end
theorem y7:Cl Tryz.prog 4=true:=by kernel_rfl
theorem pQ {x y:Int} (h:ZU x y≥0):y≤x:=by
 unfold ZU at h;split at h
 ·omega
 ·split at h<;>omega
theorem jw {w:World} {F:Gs} {x:Ri} {zx:Int} (hF:Fits F w) (hx:VZ F x zx) (hz:sz zx≤1000000):Hc Tryz.prog 179 [x.v] w F (-zx):=by
 obtain ⟨xn,⟨xq,xm,xc⟩,xl⟩:=x
 have px:=hx.p
 have lx:=px.len
 have kx:=hx.1.2.1
 have vx:=px.v0
 dsimp only at px lx kx vx
 dsimp only [Ri.v]
 have eqn : -zx=We (!xn) xl:=by rw [px.e];cases xn<;>simp [We]
 refine QT.intro (G:=fun F=>VZ F ⟨xn,⟨xq,xm,xc⟩,xl⟩ zx) Tryz.func179 rfl (by rfl) rfl rfl hF (fun F' hF'=>hx.le hF')<|J_sr<|Q5 rfl (vs:=[_,_]) rfl (fun b1=>Qf Yj (fun b2=>JS_nt<|J_sr<|QA (QI rfl KW V7)<|QA (Qo rfl V7 (.there .here) (.here .nil))<|QA (Z0 rfl)<|QA (QI rfl Z6 Qv)<|QA (Qo rfl Qv (.there .here) (.skip (.here .nil)))<|QH rfl (fun w F hF hx=>Z3 hF (r:=⟨xq,xm,xc⟩) (l:=xl) (neg:=!xn) hx.1 (px.dg) (by omega)) (fun c8=>QQ (vs:=[_,_]) rfl rfl rfl JP rfl .here (.here (.here .nil)) ⟨rfl,rfl,trivial⟩<|JS_nt<|QS ?_)))
 exact QR (c8) rfl (.Jc (c:=[_,_]) rfl JP .here .nil) (rfl) (fun F h9=>(by rw [eqn];exact h9.2))
theorem G6 {w:World} {F:Gs} {x y:Ri} {zx zy:Int} (hF:Fits F w) (hx:VZ F x zx) (hy:VZ F y zy) (hzx:sz zx≤1000000) (hzy:sz zy≤1000000):Hc Tryz.prog 178 [x.v,y.v] w F (zx*zy):=by
 obtain ⟨xn,⟨xq,xm,xc⟩,xl⟩:=x
 have px:=hx.p
 have lx:=px.len
 have kx:=hx.1.2.1
 have vx:=px.v0
 dsimp only at px lx kx vx
 obtain ⟨yn,⟨yq,ym,yc⟩,yl⟩:=y
 have py:=hy.p
 have ly:=py.len
 have ky:=hy.1.2.1
 have vy:=py.v0
 dsimp only at py ly ky vy
 dsimp only [Ri.v]
 refine QT.intro (G:=fun F=>VZ F ⟨xn,⟨xq,xm,xc⟩,xl⟩ zx∧VZ F ⟨yn,⟨yq,ym,yc⟩,yl⟩ zy) Tryz.func178 rfl (by rfl) rfl rfl hF (fun F' hF'=>⟨hx.le hF',hy.le hF'⟩)<|J_sr<|Q5 rfl (vs:=[_,_]) rfl (fun b2=>Q5 rfl (vs:=[_,_]) rfl (fun b3=>Qf Yj (fun b4=>JS_nt<|QG<|JR (.cons _ (.cons_cons _ (.cons_cons _ .slnil))) mixed (by kernel_rfl)<|QM (QI rfl KW V7)<|QM (Qo rfl V7 (.there .here) (.here .nil))<|QM (QI rfl KW V7)<|QM (Qo rfl V7 .here (.here .nil))<|QM (uO y7 rfl rfl)<|QM (QI rfl Z6 Qv)<|QM (Qo rfl Qv (.there .here) (.skip (.here .nil)))<|QM (QI rfl Z6 Qv)<|QM (Qo rfl Qv .here (.skip (.here .nil))) ?_)))
 refine Qg rfl (fun w F hF h9=>GW hF (a:=xl) (b:=yl) (ra:=⟨xq,xm,xc⟩) (rb:=⟨yq,ym,yc⟩) h9.1.1 (h9.2.1) (px.dg) (py.dg) (by omega) (by first | omega | (simp;done) | (simp;omega))) (fun c14=>?_);rcases c14 with ⟨v14,l14⟩;dsimp only
 refine MS _ (fun w F hF ⟨⟨hx,hy⟩,⟨h14,h14p⟩⟩=>And.intro h14.2 h14p) (fun p14=>?_)
 have eqn:zx*zy=We (!(xn==yn)) l14:=by
  have e14:=p14.2.2.1
  rw [px.e,py.e];unfold We;rw [e14];cases xn<;>cases yn<;>simp [Int.mul_neg,Int.neg_mul]
 have m14:=p14.2.2.2.2
 refine Qg rfl (fun w F hF h9=>Z3 hF (r:=v14) (l:=l14) (neg:=!(xn==yn)) h9.2.1 (p14.2.1) (by omega)) (fun c15=>Jh (vs:=[_,_]) rfl rfl rfl JP rfl .here (.cons_cons _ (.cons_cons _ .slnil)) (fun _ h=>h.1.1) (.here (.here .nil)) ⟨rfl,rfl,trivial⟩<|Q9<|QC<|QS ?_)
 exact QR (c15) rfl (.Jc (c:=[_,_]) rfl JP .here .nil) (rfl) (fun F h9=>(by rw [eqn];exact h9.2))
theorem yh {w:World} {F:Gs} {x y:Ri} {zx zy:Int} (hF:Fits F w) (hx:VZ F x zx) (hy:VZ F y zy) (hzx:sz zx≤1000000) (hzy:sz zy≤1000000):Hc Tryz.prog 177 [x.v,y.v] w F (zx+zy):=by
 obtain ⟨xn,⟨xq,xm,xc⟩,xl⟩:=x
 have px:=hx.p
 have lx:=px.len
 have kx:=hx.1.2.1
 have vx:=px.v0
 dsimp only at px lx kx vx
 obtain ⟨yn,⟨yq,ym,yc⟩,yl⟩:=y
 have py:=hy.p
 have ly:=py.len
 have ky:=hy.1.2.1
 have vy:=py.v0
 dsimp only at py ly ky vy
 dsimp only [Ri.v]
 refine QT.intro (G:=fun F=>VZ F ⟨xn,⟨xq,xm,xc⟩,xl⟩ zx∧VZ F ⟨yn,⟨yq,ym,yc⟩,yl⟩ zy) Tryz.func177 rfl (by rfl) rfl rfl hF (fun F' hF'=>⟨hx.le hF',hy.le hF'⟩)<|J_sr<|Q5 rfl (vs:=[_,_]) rfl (fun b2=>Q5 rfl (vs:=[_,_]) rfl (fun b3=>Qf Yj (fun b4=>JS_nt<|QG<|J_sr<|QA (QI rfl KW V7)<|QA (Qo rfl V7 (.there (.there .here)) (.here .nil))<|QA (QI rfl KW V7)<|QA (Qo rfl V7 (.there .here) (.here .nil))<|QA (uP y7 rfl rfl)<|QE<|QC ?_)))
 refine QP rfl (fun hc=>?_) (fun hc=>?_)
 ·
  have hne:xn=yn:=by simpa using hc
  refine QG<|JR (.cons _ (.cons_cons _ (.cons_cons _ .slnil))) mixed (by kernel_rfl)<|QM (QI rfl KW V7)<|QM (Qo rfl V7 (.there .here) (.here .nil))<|QM (QI rfl Z6 Qv)<|QM (Qo rfl Qv (.there .here) (.skip (.here .nil)))<|QM (QI rfl Z6 Qv)<|QM (Qo rfl Qv .here (.skip (.here .nil))) ?_
  refine Qg rfl (fun w F hF h9=>Ev hF (a:=xl) (b:=yl) (ra:=⟨xq,xm,xc⟩) (rb:=⟨yq,ym,yc⟩) h9.1.1 (h9.2.1) (px.dg) (py.dg) (by omega) (by first | omega | (simp;done) | (simp;omega))) (fun c16=>?_);rcases c16 with ⟨v16,l16⟩;dsimp only
  refine MS _ (fun w F hF ⟨⟨hx,hy⟩,⟨h16,h16p⟩⟩=>And.intro h16.2 h16p) (fun p16=>?_)
  have eqn:zx+zy=We xn l16:=by
   have e16:=p16.2.2.1
   rw [px.e,py.e,hne];unfold We;rw [e16];cases yn<;>simp<;>omega
  have m16:=p16.2.2.2
  refine Qg rfl (fun w F hF h9=>Z3 hF (r:=v16) (l:=l16) (neg:=xn) h9.2.1 (p16.2.1) (by omega)) (fun c17=>Jh (vs:=[_,_]) rfl rfl rfl JP rfl .here (.cons_cons _ (.cons_cons _ .slnil)) (fun _ h=>h.1.1) (.here (.here .nil)) ⟨rfl,rfl,trivial⟩<|Q9<|QC<|QS ?_)
  exact QR (c17) rfl (.Jc (c:=[_,_]) rfl JP .here .nil) (rfl) (fun F h9=>(by rw [eqn];exact h9.2))
 ·
  have hne:xn=!yn:=by cases xn<;>cases yn<;>simp_all
  refine QO<|QC<|QG<|J_sr<|QA (QI rfl Z6 Qv)<|QA (Qo rfl Qv (.there (.there .here)) (.skip (.here .nil)))<|QA (QI rfl Z6 Qv)<|QA (Qo rfl Qv (.there .here) (.skip (.here .nil)))<|QH rfl (fun w F hF h9=>GY hF (a:=xl) (b:=yl) (ra:=⟨xq,xm,xc⟩) (rb:=⟨yq,ym,yc⟩) h9.1.1 (h9.2.1) (px.dg) (py.dg) (px.nz) (py.nz) (by omega) (by omega)) (fun _=>QA (QU rfl rfl rfl)<|QE<|QC ?_)
  refine QP rfl (fun hc=>?_) (fun hc=>?_)
  ·
   have hle:dv B9 yl≤dv B9 xl:=pQ (dec_t hc)
   have hll:=GB py.dg px.dg py.nz hle
   refine QG<|JR (.cons _ (.cons_cons _ (.cons_cons _ .slnil))) mixed (by kernel_rfl)<|QM (QI rfl KW V7)<|QM (Qo rfl V7 (.there .here) (.here .nil))<|QM (QI rfl Z6 Qv)<|QM (Qo rfl Qv (.there .here) (.skip (.here .nil)))<|QM (QI rfl Z6 Qv)<|QM (Qo rfl Qv .here (.skip (.here .nil))) ?_
   refine Qg rfl (fun w F hF h9=>Au hF (a:=xl) (b:=yl) (ra:=⟨xq,xm,xc⟩) (rb:=⟨yq,ym,yc⟩) h9.1.1.1 (h9.1.2.1) (px.dg) (py.dg) (by omega) (by omega) (hle)) (fun c30=>?_);rcases c30 with ⟨v30,l30⟩;dsimp only
   refine MS _ (fun w F hF ⟨⟨⟨hx,hy⟩,_⟩,⟨h30,h30p⟩⟩=>And.intro h30.2 h30p) (fun p30=>?_)
   have eqn:zx+zy=We xn l30:=by
    have e30:=p30.2.2.1
    rw [px.e,py.e,hne];unfold We;rw [e30];cases yn<;>simp<;>omega
   have m30:=p30.2.2.2
   refine Qg rfl (fun w F hF h9=>Z3 hF (r:=v30) (l:=l30) (neg:=xn) h9.2.1 (p30.2.1) (by omega)) (fun c31=>Jh (vs:=[_,_]) rfl rfl rfl JP rfl .here (.cons_cons _ (.cons_cons _ .slnil)) (fun _ h=>h.1.1) (.here (.here .nil)) ⟨rfl,rfl,trivial⟩<|Q9<|QC<|QS ?_)
   exact QR (c31) rfl (.Jc (c:=[_,_]) rfl JP .here .nil) (rfl) (fun F h9=>(by rw [eqn];exact h9.2))
  ·
   have hle:dv B9 xl≤dv B9 yl:=xa (dec_f hc)
   have hll:=GB px.dg py.dg px.nz hle
   refine QO<|QC<|QG<|JR (.cons _ (.cons_cons _ (.cons_cons _ .slnil))) mixed (by kernel_rfl)<|QM (QI rfl KW V7)<|QM (Qo rfl V7 .here (.here .nil))<|QM (QI rfl Z6 Qv)<|QM (Qo rfl Qv .here (.skip (.here .nil)))<|QM (QI rfl Z6 Qv)<|QM (Qo rfl Qv (.there .here) (.skip (.here .nil))) ?_
   refine Qg rfl (fun w F hF h9=>Au hF (a:=yl) (b:=xl) (ra:=⟨yq,ym,yc⟩) (rb:=⟨xq,xm,xc⟩) h9.1.2.1 (h9.1.1.1) (py.dg) (px.dg) (by omega) (by omega) (hle)) (fun c38=>?_);rcases c38 with ⟨v38,l38⟩;dsimp only
   refine MS _ (fun w F hF ⟨⟨⟨hx,hy⟩,_⟩,⟨h38,h38p⟩⟩=>And.intro h38.2 h38p) (fun p38=>?_)
   have eqn:zx+zy=We yn l38:=by
    have e38:=p38.2.2.1
    rw [px.e,py.e,hne];unfold We;rw [e38];cases yn<;>simp<;>omega
   have m38:=p38.2.2.2
   refine Qg rfl (fun w F hF h9=>Z3 hF (r:=v38) (l:=l38) (neg:=yn) h9.2.1 (p38.2.1) (by omega)) (fun c39=>Jh (vs:=[_,_]) rfl rfl rfl JP rfl .here (.cons_cons _ (.cons_cons _ .slnil)) (fun _ h=>h.1.1) (.here (.here .nil)) ⟨rfl,rfl,trivial⟩<|Q9<|QC<|QS ?_)
   exact QR (c39) rfl (.Jc (c:=[_,_]) rfl JP .here .nil) (rfl) (fun F h9=>(by rw [eqn];exact h9.2))
end
section
open Go.RowKit Ig
theorem kL (x y:Int):Int.gcd y (x%y)=Int.gcd x y:=by
 rw [Int.gcd_comm y,Int.emod_def]
 first | rw [Int.gcd_sub_mul_left_left] | rw [Int.gcd_sub_mul_right_left] | rw [Int.gcd_sub_mul_left] | simp
theorem Cb {w:World} {F:Gs} {ra rb:Sr} {a b:List Int} (hF:Fits F w) (hA:JL F ra a) (hB:JL F rb b) (da:DG B9 a) (db:DG B9 b) (za:NZ a) (zb:NZ b) (la:a.length≤10000000) (lb:b.length≤10000000) :
  QT Tryz.prog 120 [ra.v,rb.v] w F (fun(c:Sr×List Int)=>.slice c.1.q c.1.n c.1.cap) (fun c F=>JL F c.1 c.2∧DG B9 c.2∧NZ c.2∧dv B9 c.2=(Int.gcd (dv B9 a) (dv B9 b):Int)):=by
 refine QT.intro (G:=fun F=>JL F ra a∧JL F rb b) Tryz.func120 rfl (by rfl) rfl rfl hF (fun F' hF'=>⟨hA.le hF',hB.le hF'⟩)<|J_sr<|JS_as rfl<|JS_nt<|QG<|QX<|Jw (ι:=cf (dv B9 a) (dv B9 b)) [] (fun i=>[(0,.slice i.ra.q i.ra.n i.ra.cap),(1,.slice i.rb.q i.rb.n i.rb.cap)]) (fun i=>[]) (fun i F=>JL F i.ra i.a∧JL F i.rb i.b) (fun i=>(dv B9 i.b).toNat) (⟨ra,rb,a,b,da,db,za,zb,la,lb,hB.2.1,rfl⟩) trivial ⟨rfl,rfl,trivial⟩ subl_r (fun F h=>h) (fun i=>?_)
 simp only [List.cons_append,List.nil_append]
 have hla:=i.la
 have hlb:=i.lb
 have hnb:=i.nb
 refine QG<|J_sr<|JS_mv rfl<|QA (Qi rfl Qd)<|QA (QU rfl rfl rfl)<|QE<|QC ?_
 refine QP rfl (fun hc=>?_) (fun hc=>?_)
 ·
  have hpos:0<dv B9 i.b:=by
   have h1:=Yq SV i.db i.zb
   have h2:=Qu JF i.db
   rw [← List.length_eq_zero_iff] at h1
   have:=dec_t hc
   omega
  have hm0:=Int.emod_nonneg (dv B9 i.a) (Int.ne_of_gt hpos)
  have hm1:=Int.emod_lt_of_pos (dv B9 i.a) hpos
  refine QO<|QC<|QX<|J_sr<|JS_mv rfl<|JS_mv rfl<|QH rfl (fun w F hF h9=>GX hF (a:=i.a) (b:=i.b) (ra:=i.ra) (rb:=i.rb) h9.2.1 (h9.2.2) (i.da) (i.db) (i.za) (i.zb) (hpos) (by omega) (by omega)) (fun c13=>JS_mv rfl<|QA (QK rfl rfl)<|QA (QK rfl rfl)<|JS_as rfl<|JS_as rfl<|JS_nt<|X3 _ (fun w F hF h=>And.intro h.2.2.2 h.2.2.1.2.1) (fun q13=>?_))
  obtain ⟨q13,n13⟩:=q13
  refine QB<|JS_mv rfl<|JS_mv rfl<|JS_as rfl<|JS_as rfl<|QE<|Qk ?_
  exact Ql (⟨i.rb,c13.2.1,i.b,c13.2.2,i.db,q13.1,i.zb,q13.2.1,i.lb,by have:=GB q13.1 i.db q13.2.1 (by rw [q13.2.2];omega);omega,n13,by rw [q13.2.2,kL];exact i.h⟩) (by show(dv B9 c13.2.2).toNat<(dv B9 i.b).toNat;rw [q13.2.2];omega) ⟨rfl,rfl,trivial⟩ subl_r (fun F h9=>⟨⟨h9.1.1.1,h9.1.1.2⟩,⟨h9.1.2.2,h9.2.2.1⟩⟩)
 ·
  have hz:i.b=[]:=by
   have:=dec_f hc
   exact List.eq_nil_of_length_eq_zero (by omega)
  refine Qy ?_
  repeat (first | refine QZ ?_ | refine QV (by rfl) ?_)
  refine Qa<|QC<|J_sr<|JS_mv rfl<|JS_as rfl<|JS_nt<|QS ?_
  exact QR ((i.ra,i.a):Sr×List Int) rfl (.tmp rfl .nil) (rfl) (fun F h9=>⟨h9.2.1,i.da,i.za,by have e:=i.h;rw [hz,T0,Int.gcd_zero_right] at e;have:=Qu JF i.da;show dv B9 i.a=_;omega⟩)
end
section
open Go.RowKit Ig
theorem Nw {w:World} {F:Gs} {x:Int} {least:Nat} (hF:Fits F w) (h0:0≤x) (hn:x≤9223372036854775807) (hl:least≤1000):Qc Tryz.prog 182 [.int .i64 x,.int .i64 (least:Int)] w F (tx (Nt x.toNat least)):=by
 have:=zB (n:=x.toNat) (least:=least) hF (by omega) hl
 rw [Int.toNat_of_nonneg h0] at this;exact this
theorem C3 {w:World} {F:Gs} {x:Ri} {zx:Int} (hF:Fits F w) (hx:VZ F x zx) (hz:sz zx≤1000000):Qc Tryz.prog 192 [x.v] w F (tx (X0 zx)):=by
 obtain ⟨xn,⟨xq,xm,xc⟩,xl⟩:=x
 have px:=hx.p
 have lx:=px.len
 have kx:=hx.1.2.1
 have vx:=px.v0
 dsimp only at px lx kx vx
 dsimp only [Ri.v]
 have h9:B9=1000000000:=rfl
 refine QT.intro (G:=fun F=>VZ F ⟨xn,⟨xq,xm,xc⟩,xl⟩ zx) Tryz.func192 rfl (by rfl) rfl rfl hF (fun F' hF'=>hx.le hF')<|J_sr<|Q5 rfl (vs:=[_,_]) rfl (fun b1=>JS_as rfl<|JS_nt<|QG<|J_sr<|QA (QI rfl Z6 Qv)<|QA (Qo rfl Qv .here (.skip (.here .nil)))<|QA (Qi rfl Qd)<|QA (QU rfl rfl rfl)<|QE<|QC ?_)
 refine QP rfl (fun hc=>?_) (fun hc=>?_)
 ·
  have hx0:zx=0:=(px.zero).1 (List.eq_nil_of_length_eq_zero (by have:=hc;simp at this;omega))
  refine J_sr<|JS_as rfl<|JS_nt<|QS ?_
  exact F_r1 rfl rfl (by rw [hx0,J3 (by decide)];exact congrArg (fun l=>tx l) Ze) (fun F hx=>trivial)
 ·
  have hl0:0<xl.length:=by
   rcases Nat.eq_zero_or_pos xm with g | g
   ·rw [g] at hc;simp at hc
   ·omega
  obtain ⟨d1,d2⟩:=Hb px.dg px.nz hl0
  have b0:=px.dg.Qb JF (xl.length - 1)
  rw [h9] at b0
  refine QO<|QC<|J_sr<|QA (QI rfl Z6 Qv)<|QA (Qo rfl Qv .here (.skip (.here .nil)))<|QA (QI rfl Z6 Qv)<|QA (Qo rfl Qv .here (.skip (.here .nil)))<|QA (Qi rfl Qd)<|QA (J7 rfl rfl (by omega))<|QA (JK (n:=xm) (xl.length - 1) (fun F hx=>(hx.1).1) rfl (congrArg (fun z:Int=>some (Value.int .i64 z)) (by omega)) Qd Qs (by omega))<|QA (JM (n:=xm) ((xl.length - 1)*1) (fun F hx=>(hx.1).1) (by omega) rfl Qs (JJ (o:=xl) (by omega)))<|QH rfl (fun w F hF hx=>Nw hF (least:=1) (by omega) (by omega) (by omega)) (fun _=>JS_as rfl<|JS_nt<|QG<|J_sr<|QA (QI rfl Z6 Qv)<|QA (Qo rfl Qv .here (.skip (.here .nil)))<|QA (Qi rfl Qd)<|QA (J7 rfl rfl (by omega))<|JS_as rfl<|QE ?_)
  refine QC<|QX<|ZT (ι:=jZ xl) [(1,_)] (fun i=>[(3,tx i.s),(4,.int .i64 ((i.k:Int) - 1))]) (fun i=>i.k) (jZ.start px.dg px.nz hl0) ⟨rfl,trivial⟩ ⟨rfl,(congrArg (fun z:Int=>some (Value.int .i64 z)) (by simp only [jZ.start];omega)),trivial⟩ (fun i=>?_)
  simp only [List.cons_append,List.nil_append]
  have hle:=i.le
  have hsl:=i.sl
  refine QG<|J_sr<|JS_mv rfl<|QA (QU rfl rfl rfl)<|QE<|QC ?_
  refine QP rfl (fun hc=>?_) (fun hc=>?_)
  ·
   have hk0:0<i.k:=by have:=dec_t hc;omega
   have b1:=px.dg.Qb JF (i.k - 1)
   rw [h9] at b1
   have ln:=Ds (n:=(Qb xl (i.k - 1)).toNat) (by omega)
   refine QO<|QC<|QG<|QX<|QB<|JS_mv rfl<|QA (QI rfl Z6 Qv)<|QA (Qo rfl Qv .here (.skip (.here .nil)))<|JS_mv rfl<|QA (JK (n:=xm) (i.k - 1) (fun F h9=>(h9.1.1).1) rfl (congrArg (fun z:Int=>some (Value.int .i64 z)) (by omega)) Qd Qs (by omega))<|QA (JM (n:=xm) ((i.k - 1)*1) (fun F h9=>(h9.1.1).1) (by omega) rfl Qs (JJ (o:=xl) (by omega)))<|QH rfl (fun w F hF h9=>Nw hF (least:=9) (by omega) (by omega) (by omega)) (fun _=>QA (Zf rfl rfl (by omega))<|JS_as rfl<|QE<|Qk<|QC<|QB<|JS_mv rfl<|QA (J7 rfl rfl (by omega))<|JS_as rfl<|QE ?_)
   exact Ql (i.next px.dg hk0) (by show i.k - 1<i.k;omega) ⟨rfl,rfl,(congrArg (fun z:Int=>some (Value.int .i64 z)) (by simp only [jZ.next];omega)),trivial⟩ subl_r (fun F h=>h.1)
  ·
   have hk0:i.k=0:=by have:=dec_f hc;omega
   have hi:=i.h
   rw [hk0,List.drop_zero] at hi
   have ha:=px.abs
   refine Qy ?_
   repeat (first | refine QZ ?_ | refine QV (by rfl) ?_)
   refine Qa<|QC<|QG<|J_sr<|QA (QI rfl KW V7)<|QA (Qo rfl V7 .here (.here .nil))<|QE<|QC ?_
   refine QP rfl (fun hc=>?_) (fun hc=>?_)
   ·
    have hneg:zx<0:=by have:=px.neg;rw [hc] at this;exact dec_t this.symm
    refine J_sr<|JS_mv rfl<|QA (Zf rfl rfl (by simp;omega))<|JS_as rfl<|JS_nt<|QS ?_
    exact F_r1 rfl rfl (by rw [YI hneg,hi];exact congrArg (fun n=>tx (45::Lib.decDigits n)) (by omega)) (fun F h9=>trivial)
   ·
    have hneg:¬ zx<0:=by have:=px.neg;rw [hc] at this;exact dec_f this.symm
    refine QO<|QC<|J_sr<|JS_mv rfl<|JS_as rfl<|JS_nt<|QS ?_
    exact F_r1 rfl rfl (by rw [J3 (by omega),hi];exact congrArg (fun n=>tx (Lib.decDigits n)) (by omega)) (fun F h9=>trivial)
end
section
open Go.RowKit Ig
theorem pI {n d:Int} (h:0<d) {neg:Bool} {l p:List Int} (hn:V5 neg l n) (hp:dv B9 p=dv B9 l / (Int.gcd n d:Int)):We neg p=(Rat.divInt n d).num:=by
 rw [(Kv h).1]
 have hg:(0:Int)<(Int.gcd n d:Int):=by have:=WM (x:=n) h;omega
 obtain ⟨k,hk⟩:=Int.gcd_dvd_left (a:=n) (b:=d)
 have e:=hn.e
 have hv:=hn.v0
 unfold We at e ⊢
 rw [hp]
 cases neg with
 |true =>
  simp only [if_true] at e ⊢
  have e2:dv B9 l=(Int.gcd n d:Int)*(-k):=by rw [Int.mul_neg,← hk];omega
  rw [e2,Int.mul_ediv_cancel_left _ (by omega)]
  have e3:n / (Int.gcd n d:Int)=k:=by
   conv=>lhs;lhs;rw [hk]
   exact Int.mul_ediv_cancel_left _ (by omega)
  rw [e3];omega
 |false =>
  simp only [Bool.false_eq_true,if_false] at e ⊢
  rw [← e]
theorem pJ {n d:Int} (h:0<d) {neg:Bool} {l p:List Int} (hn:V5 neg l d) (hp:dv B9 p=dv B9 l / (Int.gcd n d:Int)):dv B9 p=((Rat.divInt n d).den:Int):=by
 rw [(Kv h).2,hp]
 have:=hn.abs
 congr 1;omega
theorem xQ {n d:Int} {a b:Bool} {l m:List Int} (hn:V5 a l n) (hd:V5 b m d):Int.gcd (dv B9 l) (dv B9 m)=Int.gcd n d:=by
 rw [← hn.abs,← hd.abs];simp [Int.gcd]
theorem xX (x y:Int):Rat.divInt (-x) (-y)=Rat.divInt x y:=Rat.neg_divInt_neg x y
theorem OR {l:List Int} (h:DG B9 l) (hz:NZ l):(l.length=1∧Qb l 0=1)↔dv B9 l=1:=by
 constructor
 ·rintro ⟨h1,h2⟩
  obtain ⟨x,rfl⟩:=List.length_eq_one_iff.1 h1
  simp [Qb] at h2
  simp [dv,h2]
 ·intro e
  have:l=[1]:=jG SV h (DG.cons (by decide) (by decide) (DG.nil _)) hz (by simp [NZ]) (by rw [e];simp [dv])
  subst this;exact⟨rfl,rfl⟩
theorem yj {x:Rat} (h:(x.den:Int)=1):X0 x.num=Jg x:=by unfold Jg;rw [if_pos (by omega)]
theorem C8 {x:Rat} (h:¬ (x.den:Int)=1):X0 x.num++[47]++X0 (x.den:Int)=Jg x:=by
 unfold Jg;rw [if_neg (by omega),J3 (z:=(x.den:Int)) (by omega)];simp
theorem D2 {w:World} {F:Gs} {x y:Ri} {zx zy:Int} (hF:Fits F w) (hx:VZ F x zx) (hy:VZ F y zy) (h0:zy≠0) (hzx:sz zx≤500000) (hzy:sz zy≤500000):Qc Tryz.prog 180 [x.v,y.v] w F (tx (Jg (Rat.divInt zx zy))):=by
 obtain ⟨xn,⟨xq,xm,xc⟩,xl⟩:=x
 have px:=hx.p
 have lx:=px.len
 have kx:=hx.1.2.1
 have vx:=px.v0
 dsimp only at px lx kx vx
 obtain ⟨yn,⟨yq,ym,yc⟩,yl⟩:=y
 have py:=hy.p
 have ly:=py.len
 have ky:=hy.1.2.1
 have vy:=py.v0
 dsimp only at py ly ky vy
 dsimp only [Ri.v]
 have hny:=py.neg
 refine QT.intro (G:=fun F=>VZ F ⟨xn,⟨xq,xm,xc⟩,xl⟩ zx∧VZ F ⟨yn,⟨yq,ym,yc⟩,yl⟩ zy) Tryz.func180 rfl (by rfl) rfl rfl hF (fun F' hF'=>⟨hx.le hF',hy.le hF'⟩)<|J_sr<|Q5 rfl (vs:=[_,_]) rfl (fun b2=>Q5 rfl (vs:=[_,_]) rfl (fun b3=>JS_as rfl<|QE<|QC ?_))
 refine LO (ι:=cZ zx zy) [(2,_),(3,_)] (fun i=>[]) (fun i=>[(b3,.cells [.bool i.d.neg,.slice i.d.r.q i.d.r.n i.d.r.cap].toArray 143 (0,0)),(b2,.cells [.bool i.n.neg,.slice i.n.r.q i.n.r.n i.n.r.cap].toArray 143 (0,0))]) (fun i F=>VZ F i.n i.zn∧VZ F i.d i.zd) ⟨rfl,rfl,trivial⟩ ?_ ?_
 ·
  refine J_sr<|QA (QI rfl KW V7)<|QA (Qo rfl V7 .here (.here .nil))<|QE<|QC ?_
  refine QP rfl (fun hc=>?_) (fun hc=>?_)
  ·
   refine Xo 4 subl_r mixed (by kernel_rfl) (by kernel_rfl) ?_
   simp only [List.take_succ_cons,List.take_zero,List.drop_succ_cons,List.drop_zero]
   refine QM (QL (vs:=[_,_]) rfl JP (.there .here) (.here (.here .nil)) rfl)<|Qg rfl (fun w F hF h9=>jw hF (x:=⟨xn,⟨xq,xm,xc⟩,xl⟩) h9.1 (by omega)) (fun c14=>QM (QL (vs:=[_,_]) rfl JP .here (.here (.here .nil)) rfl)<|Qg rfl (fun w F hF h9=>jw hF (x:=⟨yn,⟨yq,ym,yc⟩,yl⟩) h9.1.2 (by omega)) (fun c16=>K6<|QQ (vs:=[_,_]) rfl rfl rfl JP rfl (.there .here) (.here (.here .nil)) ⟨rfl,rfl,trivial⟩<|QQ (vs:=[_,_]) rfl rfl rfl JP rfl .here (.here (.here .nil)) ⟨rfl,rfl,trivial⟩<|QE ?_))
   exact XE (⟨c14,c16,-zx,-zy,by rw [hc] at hny;have:=dec_t hny.symm;omega,xX _ _,by rw [YQ];exact hzx,by rw [YQ];exact hzy⟩) ⟨rfl,rfl,trivial⟩ subl_r (fun F h9=>⟨⟨h9.1.1.1,h9.1.1.2⟩,⟨h9.1.2,h9.2⟩⟩)
  ·
   refine QO ?_
   exact XE (⟨⟨xn,⟨xq,xm,xc⟩,xl⟩,⟨yn,⟨yq,ym,yc⟩,yl⟩,zx,zy,by rw [hc] at hny;have:=dec_f hny.symm;omega,rfl,hzx,hzy⟩) ⟨rfl,rfl,trivial⟩ subl_r (fun F ⟨hx,hy⟩=>⟨⟨hx,hy⟩,⟨hx,hy⟩⟩)
 ·intro i
  simp only [List.cons_append,List.nil_append]
  refine X3 _ (fun w F hF h=>And.intro h.2.1.p (And.intro h.2.2.p (And.intro h.2.1.1.2.1 h.2.2.1.2.1))) (fun pp=>?_)
  obtain ⟨pn,pd,kn,kd⟩:=pp
  have ln:=pn.len
  have ld:=pd.len
  have hsn:=i.sn
  have hsd:=i.sd
  have hi:=i.h
  have gg:=xQ pn pd
  have q1:=Ym (a:=i.zn) (b:=i.zd) (by omega)
  have q2:=Ji (Rat.divInt i.zn i.zd)
  have q3:=Jd (Rat.divInt i.zn i.zd)
  have q4:sz (Rat.divInt i.zn i.zd).num≤500000:=by omega
  have q5:sz ((Rat.divInt i.zn i.zd).den:Int)≤500000:=by omega
  refine J_sr<|QA (QI rfl Z6 Qv)<|QA (Qo rfl Qv (.there .here) (.skip (.here .nil)))<|QA (QI rfl Z6 Qv)<|QA (Qo rfl Qv .here (.skip (.here .nil))) ?_
  refine QH rfl (fun w F hF h9=>Cb hF (a:=i.n.l) (b:=i.d.l) (ra:=i.n.r) (rb:=i.d.r) h9.2.1.1 (h9.2.2.1) (pn.dg) (pd.dg) (pn.nz) (pd.nz) (by omega) (by omega)) (fun c21=>?_);rcases c21 with ⟨v21,l21⟩;dsimp only
  refine JH _ (fun w F hF ⟨⟨⟨hx,hy⟩,⟨hN,hD⟩⟩,⟨h21,h21p⟩⟩=>And.intro h21.2 h21p) (fun p21=>JS_as rfl<|JS_nt<|QG ?_)
  have g0:0<dv B9 l21:=by rw [p21.2.2.2,gg];have:=WM (x:=i.zn) i.h;omega
  have l21l:l21.length≤i.d.l.length:=by
   refine GB p21.2.1 pd.dg p21.2.2.1 ?_
   rw [p21.2.2.2,gg]
   have h1:(Int.gcd i.zn i.zd:Int)≤i.zd:=Int.le_of_dvd i.h (Int.gcd_dvd_right (a:=i.zn) (b:=i.zd))
   have h2:=pd.abs
   omega
  refine QB<|QA (QI rfl Z6 Qv)<|QA (Qo rfl Qv (.there .here) (.skip (.here .nil)))<|JS_mv rfl<|QH rfl (fun w F hF h9=>GX hF (a:=i.n.l) (b:=l21) (ra:=i.n.r) (rb:=v21) h9.1.2.1.1 (h9.2.1) (pn.dg) (p21.2.1) (pn.nz) (p21.2.2.1) (g0) (by omega) (by omega)) (fun c26=>JS_mv rfl<|QA (QK rfl rfl)<|QA (QK rfl rfl)<|JS_as rfl<|JS_as rfl<|JS_nt<|QG<|X3 _ (fun w F hF h=>And.intro h.2.1.2 h.2.1.1.2.1) (fun p26=>?_))
  obtain ⟨p26,n26⟩:=p26
  refine QB<|QA (QI rfl Z6 Qv)<|QA (Qo rfl Qv .here (.skip (.here .nil)))<|JS_mv rfl<|QH rfl (fun w F hF h9=>GX hF (a:=i.d.l) (b:=l21) (ra:=i.d.r) (rb:=v21) h9.1.1.2.2.1 (h9.1.2.1) (pd.dg) (p21.2.1) (pd.nz) (p21.2.2.1) (g0) (by omega) (by omega)) (fun c33=>JS_mv rfl<|QA (QK rfl rfl)<|QA (QK rfl rfl)<|JS_as rfl<|JS_as rfl<|JS_nt<|QG<|X3 _ (fun w F hF h=>And.intro h.2.1.2 h.2.1.1.2.1) (fun p33=>?_))
  obtain ⟨p33,n33⟩:=p33
  have en:We i.n.neg c26.1.2=(Rat.divInt i.zn i.zd).num:=pI i.h pn (by rw [p26.2.2,p21.2.2.2,gg])
  have ed:dv B9 c33.1.2=((Rat.divInt i.zn i.zd).den:Int):=pJ i.h pd (by rw [p33.2.2,p21.2.2.2,gg])
  have ed2:We false c33.1.2=((Rat.divInt i.zn i.zd).den:Int):=by rw [← ed];rfl
  have lnp:=GB p26.1 pn.dg p26.2.1 (by rw [p26.2.2];exact Int.ediv_le_self _ pn.v0)
  have lnq:=GB p33.1 pd.dg p33.2.1 (by rw [p33.2.2];exact Int.ediv_le_self _ pd.v0)
  have one1:=OR p33.1 p33.2.1
  have lr1:=Dp (Rat.divInt i.zn i.zd).num
  have lr2:=Dp ((Rat.divInt i.zn i.zd).den:Int)
  refine QB<|QA (QI rfl KW V7)<|QA (Qo rfl V7 (.there .here) (.here .nil))<|JS_mv rfl<|QH rfl (fun w F hF h9=>Z3 hF (r:=c26.1.1) (l:=c26.1.2) (neg:=i.n.neg) h9.1.2.1.1 (p26.1) (by first | omega | (simp;omega))) (fun c39=>QH rfl (fun w F hF h9=>C3 hF (zx:=(Rat.divInt i.zn i.zd).num) (by rw [← en];exact h9.2) (by omega)) (fun _=>JS_as rfl<|JS_nt<|QG<|J_sr<|JS_mv rfl<|QA (Qi rfl Qd)<|QA (QU rfl rfl rfl)<|JS_mv rfl ?_))
  refine Qn (t:=44) rfl (fun hb44=>?_) (fun hb44=>?_)
  ·
   have hn1:c33.1.1.n=1:=by simp at hb44;omega
   refine QJ rfl rfl<|JS_mv rfl<|QJ rfl rfl<|QA (JK (n:=c33.1.1.n) (0) (fun F h9=>(h9.1.1.2.1.1).1) rfl (congrArg (fun z:Int=>some (Value.int .i64 z)) (by omega)) Qd Qs (by omega))<|QJ rfl rfl<|QA (JM (n:=c33.1.1.n) ((0)*1) (fun F h9=>(h9.1.1.2.1.1).1) (by omega) rfl Qs (JJ (o:=c33.1.2) (by omega)))<|QJ rfl rfl<|QA (QU rfl rfl rfl)<|QA (Qj rfl rfl rfl)<|QE<|QC ?_
   refine QP rfl (fun hc=>?_) (fun hc=>?_)
   ·
    refine J_sr<|JS_mv rfl<|JS_as rfl<|JS_nt<|QS ?_
    exact F_r1 rfl rfl (by rw [← i.e];exact congrArg (fun l=>tx l) (yj (by rw [← ed];exact one1.1 ⟨by omega,by simpa using hc⟩)).symm) (fun F h9=>trivial)
   ·
    refine QO<|QC<|J_sr<|JS_mv rfl<|QA (Zf rfl rfl (by simp;omega))<|JS_mv rfl<|QH rfl (fun w F hF h9=>Z3 hF (r:=c33.1.1) (l:=c33.1.2) (neg:=false) h9.1.1.2.1.1 (p33.1) (by first | omega | (simp;omega))) (fun c54=>QH rfl (fun w F hF h9=>C3 hF (zx:=((Rat.divInt i.zn i.zd).den:Int)) (by rw [← ed2];exact h9.2) (by omega)) (fun _=>QA (Zf rfl rfl (by simp;omega))<|JS_as rfl<|JS_nt<|QS ?_))
    exact F_r1 rfl rfl (by rw [← i.e];exact congrArg (fun l=>tx l) (C8 (fun g=>by have:=one1.2 (by rw [ed];exact g);rw [this.2] at hc;simp at hc)).symm) (fun F h9=>trivial)
  ·
   have hn1:c33.1.1.n≠1:=by simp at hb44;omega
   refine QN rfl rfl rfl<|QN rfl rfl rfl<|QN rfl rfl rfl<|QN rfl rfl rfl<|QA (Qh rfl rfl rfl)<|JS_nt<|YF rfl<|QO<|QC<|J_sr<|JS_mv rfl<|QA (Zf rfl rfl (by simp;omega))<|JS_mv rfl<|QH rfl (fun w F hF h9=>Z3 hF (r:=c33.1.1) (l:=c33.1.2) (neg:=false) h9.1.1.2.1.1 (p33.1) (by first | omega | (simp;omega))) (fun c54=>QH rfl (fun w F hF h9=>C3 hF (zx:=((Rat.divInt i.zn i.zd).den:Int)) (by rw [← ed2];exact h9.2) (by omega)) (fun _=>QA (Zf rfl rfl (by simp;omega))<|JS_as rfl<|JS_nt<|QS ?_))
   exact F_r1 rfl rfl (by rw [← i.e];exact congrArg (fun l=>tx l) (C8 (fun g=>by have:=one1.2 (by rw [ed];exact g);omega)).symm) (fun F h9=>trivial)
end
section
open Go.RowKit Ig
theorem vR (x:Rat):(Wv x).num=(x.num.natAbs:Int)∧(Wv x).den=x.den:=by
 unfold Wv;split
 ·exact⟨by rw [Rat.neg_num];omega,by rw [Rat.neg_den]⟩
 ·exact⟨by omega,rfl⟩
theorem kF {z:Int} (h:z<0):X0 z=45::X0 (-z):=by
 rw [YI h,J3 (z:=-z) (by omega)];congr 2;omega
theorem Ax {x:Rat} (h:x.num<0):Jg x=45::Jg (-x):=by
 unfold Jg
 rw [Rat.neg_num,Rat.neg_den,kF h]
 split<;>rfl
theorem Nx (x:Rat):Lib.hasPrefix (Jg x) [45]=decide (x.num<0):=by
 by_cases h:x.num<0
 ·rw [Ax h];simp [Lib.hasPrefix,List.isPrefixOf,h]
 ·have e:(decide (x.num<0))=false:=by simpa using h
  rw [e]
  unfold Jg
  rw [J3 (by omega)]
  have hd:=Jb x.num.natAbs
  split
  ·exact Ka hd
  ·have hne:=Kw x.num.natAbs
   cases hl:Lib.decDigits x.num.natAbs with
   |nil=>exact absurd hl hne
   |cons c r =>
    have:=Ka hd
    rw [hl] at this
    simpa [Lib.hasPrefix,List.isPrefixOf] using this
theorem j3 (x:Rat):Lib.trimPrefix (Jg x) [45]=Jg (Wv x):=by
 unfold Lib.trimPrefix Wv
 rw [Nx]
 by_cases h:x.num<0
 ·rw [if_pos (by simpa using h),if_pos h,Ax h];rfl
 ·rw [if_neg (by simpa using h),if_neg h]
theorem Ly {l:List UInt8} (h:XH l=true) (hl:l.length≤9):JB l<1000000000:=by
 have h1:=Vv h
 have h2:10^l.length≤10^9:=Nat.pow_le_pow_right (by decide) hl
 omega
theorem Av {w:World} {F:Gs} {x:Rat} (hF:Fits F w) (hl:JO x≤100000):QT Tryz.prog 194 [tx (Jg x)] w F (fun(c:Int×Int×Bool)=>.tuple #[.int .i64 c.1,.int .i64 c.2.1,.bool c.2.2]) (fun c _=>y9 x c):=by
 have hlen:=Gd x
 have hlen2:=Gd (Wv x)
 rw [jr] at hlen2
 obtain ⟨an,ad⟩:=vR x
 have hah:=Bz XY (Jg (Wv x))
 have anT:X0 (Wv x).num=Lib.decDigits x.num.natAbs:=by rw [an,J3 (by omega)];rfl
 refine QT.intro (G:=fun F=>True) Tryz.func194 rfl (by rfl) rfl rfl hF (fun F' hF'=>trivial)<|J_sr<|JS_as rfl<|JS_as rfl<|JS_as rfl<|JS_nt<|J_sr<|JS_mv rfl<|JS_as rfl<|JS_nt<|QG<|J_sr<|JS_mv rfl<|QA (XA rfl Xn)<|QA (QU rfl rfl rfl)<|QE<|QC ?_
 refine QP rfl (fun hc=>?_) (fun hc=>?_)
 ·
  refine J_sr<|JS_as rfl<|JS_as rfl<|JS_as rfl<|JS_nt<|QS ?_
  exact JX ((0,0,false):Int×Int×Bool) rfl (.tmp rfl (.tmp rfl (.tmp rfl .nil))) (rfl) (fun F hT=>fun h=>by cases h)
 ·
  refine QO<|QC ?_
  refine K5 [(5,_)] [(6,.bool (decide (x.num<0)))] ⟨rfl,trivial⟩ ?_ ?_
  ·
   refine QB<|JS_mv rfl<|QA (XA rfl Xn)<|QA (QU rfl rfl rfl)<|JS_mv rfl ?_
   refine Qn (t:=17) rfl (fun hb17=>?_) (fun hb17=>?_)
   ·
    refine QJ rfl rfl<|JS_mv rfl<|QJ rfl rfl<|QA (Vw (i:=0) rfl rfl Xn (by have:=dec_t hb17;omega))<|QJ rfl rfl<|QA (QU rfl rfl rfl)<|QA (Qj rfl rfl rfl)<|JS_as rfl<|QE ?_
    exact ZB ⟨rfl,(congrArg (fun b=>some (Value.bool b)) (by have h0:0<(Jg x).length:=(by have:=dec_t hb17;omega);rw [← Nx,W6 h0];exact Em rfl)),trivial⟩ subl_r (fun _ h=>h)
   ·
    refine QN rfl rfl rfl<|QN rfl rfl rfl<|QN rfl rfl rfl<|QA (Qh rfl rfl rfl)<|JS_as rfl<|QE ?_
    exact ZB ⟨rfl,(congrArg (fun b=>some (Value.bool b)) (by have h0:(Jg x).length=0:=(by have:=dec_f hb17;omega);rw [← Nx,List.eq_nil_of_length_eq_zero h0];rfl)),trivial⟩ subl_r (fun _ h=>h)
  ·
   simp only [List.cons_append,List.nil_append]
   refine K5 [(6,_)] [(5,tx (Jg (Wv x)))] ⟨rfl,trivial⟩ ?_ ?_
   ·
    refine J_sr<|JS_mv rfl<|QE<|QC ?_
    refine QP rfl (fun hc=>?_) (fun hc=>?_)
    ·
     refine QB<|JS_mv rfl<|QA (Kr (1) rfl rfl Xn rfl (by have:=M3 (s:=Jg x) (by rw [Nx];exact hc);omega))<|JS_as rfl<|QE ?_
     exact ZB ⟨rfl,(congrArg (fun l=>some (tx l)) (by rw [← j3];unfold Lib.trimPrefix;rw [if_pos (by rw [Nx];exact hc)];rfl)),trivial⟩ subl_r (fun _ h=>h)
    ·
     refine QO ?_
     exact ZB ⟨rfl,(congrArg (fun l=>some (tx l)) (by rw [← j3];unfold Lib.trimPrefix;rw [Nx,hc];rfl)),trivial⟩ subl_r (fun _ h=>h)
   ·
    simp only [List.cons_append,List.nil_append]
    refine J_sr<|JS_mv rfl<|QH rfl (fun w F hF hT=>D0 hF (by omega)) (fun _=>JS_as rfl<|JS_nt<|QG<|J_sr<|JS_mv rfl<|QA (QU rfl rfl rfl)<|JS_mv rfl ?_)
    refine Qn (t:=29) rfl (fun hb29=>?_) (fun hb29=>?_)
    ·
     refine QN rfl rfl rfl<|QN rfl rfl rfl<|QN rfl rfl rfl<|QN rfl rfl rfl<|QN rfl rfl rfl<|QA (Qj rfl rfl rfl)<|JS_nt<|Wu rfl<|J_sr<|JS_as rfl<|JS_as rfl<|JS_as rfl<|JS_nt<|QS ?_
     exact JX ((0,0,false):Int×Int×Bool) rfl (.tmp rfl (.tmp rfl (.tmp rfl .nil))) (rfl) (fun F h9=>fun h=>by cases h)
    ·
     refine QJ rfl rfl<|JS_mv rfl<|QJ rfl rfl<|QA (XA rfl Xn)<|QJ rfl rfl<|JS_mv rfl<|QJ rfl rfl<|QA (J7 rfl rfl (by omega))<|QJ rfl rfl<|QA (QU rfl rfl rfl)<|QA (Qh rfl rfl rfl)<|QE<|QC ?_
     refine QP rfl (fun hc=>?_) (fun hc=>?_)
     ·
      refine J_sr<|JS_as rfl<|JS_as rfl<|JS_as rfl<|JS_nt<|QS ?_
      exact JX ((0,0,false):Int×Int×Bool) rfl (.tmp rfl (.tmp rfl (.tmp rfl .nil))) (rfl) (fun F h9=>fun h=>by cases h)
     ·
      have k9:ahead XY (Jg (Wv x))≤9∧(Jg (Wv x)).length - ahead XY (Jg (Wv x))≤10:=by
       have ha:=Bz XY (Jg (Wv x))
       first | (simp at hc hb29;omega) | (simp at hc;omega)
      have kt:(Jg (Wv x)).take (ahead XY (Jg (Wv x)))=X0 (Wv x).num:=by
       by_cases hd:(Wv x).den=1
       ·obtain ⟨e1,e2⟩:=RR hd
        rw [e2,List.take_length,e1]
       ·exact(Hi hd).2.2.1
      have kr:JB ((Jg (Wv x)).take (ahead XY (Jg (Wv x))))=x.num.natAbs:=by rw [kt,anT,XM]
      have hnum:x.num.natAbs<1000000000:=by
       have h1:=Ly (l:=X0 (Wv x).num) (by rw [anT];exact Jb _) (by rw [← kt,List.length_take];omega)
       rw [anT,XM] at h1;exact h1
      have hdn:x.den<1000000000:=by
       rw [← ad]
       by_cases hd:(Wv x).den=1
       ·omega
       ·obtain ⟨e1,e2,e3,e4⟩:=Hi hd
        have h1:=Ly (l:=Lib.decDigits (Wv x).den) (Jb _) (by rw [← e4,List.length_drop];omega)
        rw [XM] at h1;exact h1
      refine QO<|QC<|J_sr<|JS_mv rfl<|JS_mv rfl<|QA (Ha (ahead XY (Jg (Wv x))) rfl rfl Xn rfl (by omega))<|QH rfl (fun w F hF h9=>Mt hF (by rw [kt,anT];exact Jb _) (by rw [List.length_take];omega)) (fun _=>?_)
      rw [kr]
      refine JS_as rfl<|JS_as rfl<|QE<|QC ?_
      refine K5 [(6,_),(8,_)] [(9,.int .i64 (x.den:Int))] ⟨rfl,rfl,trivial⟩ ?_ ?_
      ·
       refine J_sr<|JS_mv rfl<|JS_mv rfl<|QA (XA rfl Xn)<|QA (QU rfl rfl rfl)<|QE<|QC ?_
       refine QP rfl (fun hc=>?_) (fun hc=>?_)
       ·
        have hlt:=dec_t hc
        have hd:¬ (Wv x).den=1:=fun g=>by have:=(RS (Wv x)).2 g;have:=dec_t hc;omega
        have kd:=(Hi hd).2.2.2
        have kd2:JB ((Jg (Wv x)).drop (ahead XY (Jg (Wv x))+1))=x.den:=by rw [kd,XM,ad]
        refine QB<|JS_mv rfl<|JS_mv rfl<|QA (Qp rfl rfl (by omega))<|QA (Kr ((ahead XY (Jg (Wv x))+1)) rfl rfl Xn (congrArg (fun z:Int=>some (Value.int .i64 z)) (by omega)) (by omega))<|QH rfl (fun w F hF h9=>Mt hF (by rw [kd];exact Jb _) (by rw [List.length_drop];omega)) (fun _=>?_)
        rw [kd2]
        refine JS_as rfl<|QE ?_
        exact ZB ⟨rfl,rfl,rfl,trivial⟩ subl_r (fun _ h=>h.1)
       ·
        have hd:(Wv x).den=1:=(RS (Wv x)).1 (by have:=dec_f hc;have:=Bz XY (Jg (Wv x));omega)
        refine QO ?_
        exact ZB ⟨rfl,rfl,(congrArg (fun z:Int=>some (Value.int .i64 z)) (by rw [← ad,hd];rfl)),trivial⟩ subl_r (fun _ h=>h)
      ·
       simp only [List.cons_append,List.nil_append]
       have hden:x.den<1000000000:=hdn
       refine K5 [(9,_)] [(8,.int .i64 (x.num))] ⟨rfl,trivial⟩ ?_ ?_
       ·
        refine J_sr<|JS_mv rfl<|QE<|QC ?_
        refine QP rfl (fun hc=>?_) (fun hc=>?_)
        ·
         refine QB<|JS_mv rfl<|QA (J7 rfl rfl (by omega))<|JS_as rfl<|QE ?_
         exact ZB ⟨rfl,(congrArg (fun z:Int=>some (Value.int .i64 z)) (by have:=dec_t hc;omega)),trivial⟩ subl_r (fun _ h=>h)
        ·
         refine QO ?_
         exact ZB ⟨rfl,(congrArg (fun z:Int=>some (Value.int .i64 z)) (by have:=dec_f hc;omega)),trivial⟩ subl_r (fun _ h=>h)
       ·
        simp only [List.cons_append,List.nil_append]
        refine J_sr<|JS_mv rfl<|JS_mv rfl<|JS_as rfl<|JS_as rfl<|JS_as rfl<|JS_nt<|QS ?_
        exact JX ((x.num,(x.den:Int),true):Int×Int×Bool) rfl (.tmp rfl (.tmp rfl (.tmp rfl .nil))) (rfl) (fun F h9=>fun _=>⟨rfl,rfl,hnum,hden⟩)
end
section
open Go.RowKit Ig
section
variable {P:Program} {N:Nat} {m:Sl} {S:World→Prop} {ty:TypeId}
theorem uN {T yT:TypeId} {x y:Operand} {a b:Int} (hx:ev m x=some (.int .i64 a)) (hy:ev m y=some (.int .i64 b)) (h:0<b) (h0 : -9223372036854775807≤a) (h1:a≤9223372036854775807):Qt P N m S (.binOp .quo T x y yT) ty (.int .i64 (a.tdiv b)):=by
 have:=I3 (P:=P) (N:=N) (m:=m) (S:=S) (ty:=ty) (T:=T) (yT:=yT) hx hy (by omega)
 have e:=Int.natAbs_tdiv a b
 have e2:a.natAbs.div b.natAbs≤a.natAbs:=Nat.div_le_self _ _
 rw [IntWalk.i64_in _ (by omega)] at this;exact this
end
theorem dW {w:World} {F:Gs} {x y:Int} (hF:Fits F w) (h0:0≤x) (h1:x≤9223372036854775807) (k0:0≤y) (k1:y≤9223372036854775807):Qc Tryz.prog 181 [.int .i64 x,.int .i64 y] w F (.int .i64 (Nat.gcd x.toNat y.toNat:Nat)):=by
 have:=vN (a:=x.toNat) (b:=y.toNat) hF (by omega) (by omega)
 rw [Int.toNat_of_nonneg h0,Int.toNat_of_nonneg k0] at this;exact this
theorem vm (z:Int):(if 0 - z>z then 0 - z else z)=((z.natAbs:Nat):Int):=by split<;>omega
theorem xZ (n:Nat):Nt n 1=Lib.decDigits n:=by
 rcases Nat.eq_zero_or_pos n with h | h
 ·subst h;unfold Nt hd;rw [if_pos rfl,Ze];rfl
 ·exact P9 h
theorem vc {n:Int} {d:Nat} (h:0<d):n.tdiv ((Nat.gcd n.natAbs d:Nat):Int)=(Rat.divInt n d).num:=by
 rw [(Kv (x:=n) (y:=(d:Int)) (by omega)).1]
 have e:(Nat.gcd n.natAbs d:Nat)=Int.gcd n (d:Int):=by simp [Int.gcd]
 rw [e]
 exact Int.tdiv_eq_ediv_of_dvd (Int.gcd_dvd_left (a:=n) (b:=(d:Int)))
theorem vd {n:Int} {d:Nat} (h:0<d):(d:Int) / ((Nat.gcd n.natAbs d:Nat):Int)=((Rat.divInt n d).den:Int):=by
 rw [(Kv (x:=n) (y:=(d:Int)) (by omega)).2]
 have e:(Nat.gcd n.natAbs d:Nat)=Int.gcd n (d:Int):=by simp [Int.gcd]
 rw [e]
theorem dn (n:Int) {d:Int} (h:d≠0):Rat.divInt (if d<0 then 0 - n else n) (d.natAbs:Int)=Rat.divInt n d:=by
 split
 ·rename_i g
  rw [show((d.natAbs:Nat):Int) = -d by omega,Int.zero_sub];exact Rat.neg_divInt_neg n d
 ·rw [show((d.natAbs:Nat):Int)=d by omega]
theorem ve {n:Int} {d:Nat} (h:0<d) (hn:n.natAbs≤4000000000000000000) (hd:d≤4000000000000000000):(Rat.divInt n d).num.natAbs≤4000000000000000000∧(Rat.divInt n d).den≤4000000000000000000∧0<(Rat.divInt n d).den:=by
 have e1:=vc (n:=n) h
 have e2:=vd (n:=n) h
 have k1:=Int.natAbs_tdiv n ((Nat.gcd n.natAbs d:Nat):Int)
 have k2:n.natAbs.div ((Nat.gcd n.natAbs d:Nat):Int).natAbs≤n.natAbs:=Nat.div_le_self _ _
 have k3:(d:Int) / ((Nat.gcd n.natAbs d:Nat):Int)≤(d:Int):=Int.ediv_le_self _ (by omega)
 have k4:=(Rat.divInt n d).den_pos
 rw [e1] at k1
 omega
theorem xF (z:Int):(if z<0 then [45] else [])++Lib.decDigits z.natAbs=X0 z:=by
 split
 ·rename_i h;rw [YI h];rfl
 ·rw [J3 (by omega)];rfl
theorem dP {z:Int} (h : -9223372036854775808≤z∧z≤9223372036854775807):sz z≤64:=by
 rw [Xv];omega
theorem pj {w:World} {F:Gs} {num den:Int} (hF:Fits F w) (hn : -9223372036854775808≤num∧num≤9223372036854775807) (hd : -9223372036854775808≤den∧den≤9223372036854775807) (h0:den≠0):Qc Tryz.prog 74 [.int .i64 num,.int .i64 den] w F (tx (Jg (Rat.divInt num den))):=by
 refine QT.intro (G:=fun F=>True) Tryz.func74 rfl (by rfl) rfl rfl hF (fun F' hF'=>trivial)<|J_sr<|JS_as rfl<|JS_nt<|QG ?_
 refine K5 [(0,_),(1,_)] [(20,.bool (decide (num < -4000000000000000000∨num>4000000000000000000∨den < -4000000000000000000∨den>4000000000000000000)))] ⟨rfl,rfl,trivial⟩ ?_ ?_
 ·
  refine QB<|JS_mv rfl<|QA (QU rfl rfl rfl)<|JS_mv rfl ?_
  refine Qn (t:=9) rfl (fun hb9=>?_) (fun hb9=>?_)
  ·
   refine QN rfl rfl rfl<|QN rfl rfl rfl<|QA (Qj rfl rfl rfl)<|JS_mv rfl<|QN rfl rfl rfl<|QN rfl rfl rfl<|QA (Qj rfl rfl rfl)<|JS_mv rfl<|QN rfl rfl rfl<|QN rfl rfl rfl<|QA (Qj rfl rfl rfl)<|QE ?_
   exact ZB ⟨rfl,rfl,(congrArg (fun b=>some (Value.bool b)) (by rw [Bool.eq_iff_iff];simp_all;try omega)),trivial⟩ subl_r (fun _ h=>h)
  ·
   refine QJ rfl rfl<|JS_mv rfl<|QJ rfl rfl<|QA (QU rfl rfl rfl)<|QA (Qh rfl rfl rfl)<|JS_mv rfl ?_
   refine Qn (t:=13) rfl (fun hb13=>?_) (fun hb13=>?_)
   ·
    refine QN rfl rfl rfl<|QN rfl rfl rfl<|QA (Qj rfl rfl rfl)<|JS_mv rfl<|QN rfl rfl rfl<|QN rfl rfl rfl<|QA (Qj rfl rfl rfl)<|QE ?_
    exact ZB ⟨rfl,rfl,(congrArg (fun b=>some (Value.bool b)) (by rw [Bool.eq_iff_iff];simp_all;try omega)),trivial⟩ subl_r (fun _ h=>h)
   ·
    refine QJ rfl rfl<|JS_mv rfl<|QJ rfl rfl<|QA (QU rfl rfl rfl)<|QA (Qh rfl rfl rfl)<|JS_mv rfl ?_
    refine Qn (t:=17) rfl (fun hb17=>?_) (fun hb17=>?_)
    ·
     refine QN rfl rfl rfl<|QN rfl rfl rfl<|QA (Qj rfl rfl rfl)<|QE ?_
     exact ZB ⟨rfl,rfl,(congrArg (fun b=>some (Value.bool b)) (by rw [Bool.eq_iff_iff];simp_all;try omega)),trivial⟩ subl_r (fun _ h=>h)
    ·
     refine QJ rfl rfl<|JS_mv rfl<|QJ rfl rfl<|QA (QU rfl rfl rfl)<|QA (Qh rfl rfl rfl)<|QE ?_
     exact ZB ⟨rfl,rfl,(congrArg (fun b=>some (Value.bool b)) (by rw [Bool.eq_iff_iff];simp_all;try omega)),trivial⟩ subl_r (fun _ h=>h)
 ·
  simp only [List.cons_append,List.nil_append]
  refine QP rfl (fun hc=>?_) (fun hc=>?_)
  ·
   refine J_sr<|JS_mv rfl<|QH rfl (fun w F hF hT=>MW hF (by omega)) (fun c22=>JS_mv rfl<|QH rfl (fun w F hF h9=>MW hF (by omega)) (fun c24=>QH rfl (fun w F hF h9=>D2 hF (h9.1.2) (h9.2) (h0) (by have:=dP hn;omega) (by have:=dP hd;omega)) (fun _=>JS_as rfl<|JS_nt<|QS ?_)))
   exact F_r1 rfl rfl (rfl) (fun F h9=>trivial)
  ·
   have hb:¬ (num < -4000000000000000000∨num>4000000000000000000∨den < -4000000000000000000∨den>4000000000000000000):=dec_f hc
   refine QO<|QC ?_
   refine K5 [] [(0,.int .i64 (if den<0 then 0 - num else num)),(1,.int .i64 ((den.natAbs:Nat):Int))] trivial ?_ ?_
   ·
    refine J_sr<|JS_mv rfl<|QA (QU rfl rfl rfl)<|QE<|QC ?_
    refine QP rfl (fun hc=>?_) (fun hc=>?_)
    ·
     refine QB<|JS_mv rfl<|QA (J7 rfl rfl (by omega))<|JS_mv rfl<|QA (J7 rfl rfl (by omega))<|JS_as rfl<|JS_as rfl<|QE ?_
     exact ZB ⟨(congrArg (fun z:Int=>some (Value.int .i64 z)) (if_pos (dec_t hc)).symm),(congrArg (fun z:Int=>some (Value.int .i64 z)) (by have:=dec_t hc;omega)),trivial⟩ subl_r (fun _ h=>h)
    ·
     refine QO ?_
     exact ZB ⟨(congrArg (fun z:Int=>some (Value.int .i64 z)) (if_neg (dec_f hc)).symm),(congrArg (fun z:Int=>some (Value.int .i64 z)) (by have:=dec_f hc;omega)),trivial⟩ subl_r (fun _ h=>h)
   ·
    simp only [List.cons_append,List.nil_append]
    have hq:=dn num h0
    have b1:(if den<0 then 0 - num else num).natAbs≤4000000000000000000:=by split<;>omega
    generalize (if den<0 then 0 - num else num)=n1 at *
    obtain ⟨c1,c2,c3⟩:=ve (n:=n1) (d:=den.natAbs) (by omega) b1 (by omega)
    have hg:0<Nat.gcd n1.natAbs den.natAbs:=Nat.gcd_pos_of_pos_right _ (by omega)
    have lr1:=Dp (Rat.divInt n1 (den.natAbs:Int)).num
    have lr2:=UL (Rat.divInt n1 (den.natAbs:Int)).den
    have lz1:=dP (z:=(Rat.divInt n1 (den.natAbs:Int)).num) (by omega)
    have lz2:=dP (z:=((Rat.divInt n1 (den.natAbs:Int)).den:Int)) (by omega)
    have e1:=vc (n:=n1) (d:=den.natAbs) (by omega)
    have e2:=vd (n:=n1) (d:=den.natAbs) (by omega)
    refine J_sr<|JS_mv rfl<|JS_mv rfl<|QA (J7 rfl rfl (by omega))<|QA (vV rfl rfl) ?_
    rw [vm]
    refine JS_mv rfl<|QH rfl (fun w F hF hT=>dW hF (by omega) (by omega) (by omega) (by omega)) (fun _=>JS_as rfl<|JS_nt<|QG<|JR subl_r mixed (by kernel_rfl) ?_)
    simp only [Int.toNat_natCast]
    refine QM (QD rfl)<|QM (QD rfl)<|QM (uN rfl rfl (by omega) (by omega) (by omega)) ?_
    rw [e1]
    refine QM (QD rfl)<|QM (QD rfl)<|QM (Wh rfl rfl (by omega) (by omega) (by omega)) ?_
    rw [e2]
    refine QM (QF rfl)<|QM (QF rfl)<|Q9<|QC<|J_sr<|JS_as rfl<|QE<|QC ?_
    refine K5 [(0,_),(1,_)] [(6,tx (if(Rat.divInt n1 (den.natAbs:Int)).num<0 then [45] else []))] ⟨rfl,rfl,trivial⟩ ?_ ?_
    ·
     refine J_sr<|JS_mv rfl<|QA (QU rfl rfl rfl)<|QE<|QC ?_
     refine QP rfl (fun hc=>?_) (fun hc=>?_)
     ·
      refine QB<|JS_as rfl<|QE ?_
      exact ZB ⟨rfl,rfl,(congrArg (fun l=>some (tx l)) (if_pos (dec_t hc)).symm),trivial⟩ subl_r (fun _ h=>h)
     ·
      refine QO ?_
      exact ZB ⟨rfl,rfl,(congrArg (fun l=>some (tx l)) (if_neg (dec_f hc)).symm),trivial⟩ subl_r (fun _ h=>h)
    ·
     simp only [List.cons_append,List.nil_append]
     refine J_sr<|JS_mv rfl<|JS_mv rfl<|JS_mv rfl<|QA (J7 rfl rfl (by omega))<|QA (vV rfl rfl) ?_
     rw [vm]
     refine QH rfl (fun w F hF h9=>Nw hF (least:=1) (by omega) (by omega) (by omega)) (fun _=>?_)
     simp only [Int.toNat_natCast,xZ]
     refine QA (Zf rfl rfl (by have e:=congrArg List.length (xF (Rat.divInt n1 (den.natAbs:Int)).num);rw [List.length_append] at e;omega))<|JS_as rfl<|JS_nt<|QG<|QG<|QB ?_
     rw [xF]
     refine JS_mv rfl<|QA (QU rfl rfl rfl)<|QE<|QC ?_
     refine QP rfl (fun hc=>?_) (fun hc=>?_)
     ·
      have hd1:¬ ((Rat.divInt n1 (den.natAbs:Int)).den:Int)=1:=by have:=dec_t hc;omega
      refine QB<|JS_mv rfl<|QA (Zf rfl rfl (by simp only [List.length_append,List.length_cons,List.length_nil];omega))<|JS_mv rfl<|QH rfl (fun w F hF h9=>Nw hF (least:=1) (by omega) (by omega) (by omega)) (fun _=>?_)
      simp only [Int.toNat_natCast,xZ]
      refine QA (Zf rfl rfl (by simp only [List.length_append,List.length_cons,List.length_nil];omega))<|JS_as rfl<|JS_nt<|J_sr<|JS_mv rfl<|JS_as rfl<|JS_nt<|QS ?_
      exact F_r1 rfl rfl (by rw [← hq];exact congrArg (fun l=>tx l) (by rw [← C8 hd1,A5])) (fun F h9=>trivial)
     ·
      have hd1:((Rat.divInt n1 (den.natAbs:Int)).den:Int)=1:=by have:=dec_f hc;omega
      refine QO<|QC<|J_sr<|JS_mv rfl<|JS_as rfl<|JS_nt<|QS ?_
      exact F_r1 rfl rfl (by rw [← hq];exact congrArg (fun l=>tx l) (yj hd1).symm) (fun F h9=>trivial)
end
section
open Go.RowKit Ig
theorem xG (x:Rat):x.num<0↔x<0:=by rw [← Rat.not_le,← Rat.num_nonneg];omega
theorem yz (x:Rat):zT (Jg x)=Jg (-x):=by
 unfold zT Nv
 rw [Nx]
 by_cases h0:Jg x=[48]
 ·rw [if_pos h0]
  have hx:x=0:=by
   have hv:=YG x.num
   by_cases hd:x.den=1
   ·rw [(RR hd).1] at h0
    rw [h0] at hv
    have:x.num=0:=by rw [← hv];rfl
    exact Rat.num_eq_zero.1 this
   ·have:=(Hi hd).2.2.1
    have h1:=(Hi hd).2.1
    rw [h0] at h1
    have h2:=(Hi hd).1
    have h3:0<(X0 x.num).length:=by
     rcases Nat.eq_zero_or_pos (X0 x.num).length with g | g
     ·have e:=List.eq_nil_of_length_eq_zero g
      unfold X0 at e
      rcases Int.lt_or_le x.num 0 with q | q
      ·have:=YI q;unfold X0 at this;rw [this] at e;cases e
      ·have:=J3 q;unfold X0 at this;rw [this] at e;exact absurd e (Kw _)
     ·exact g
    rw [h0] at h2
    simp at h1;omega
  subst hx
  have e:(-0:Rat)=0:=by decide
  rw [e,if_neg (by decide),if_pos rfl]
 ·rw [if_neg h0]
  by_cases hn:x.num<0
  ·rw [if_pos (show(decide (x.num<0))=true by simpa using hn),if_pos (by decide),Ax hn];rfl
  ·rw [if_neg (show ¬ (decide (x.num<0))=true by simpa using hn),if_neg (by decide),if_neg (by decide)]
   have h1:(-x).num<0:=by
    rw [Rat.neg_num]
    have:x.num≠0:=by
     intro e
     have:=Rat.num_eq_zero.1 e
     subst this
     exact h0 S8
    omega
   have:=Ax h1
   rw [Rat.neg_neg] at this
   exact this.symm
theorem jt (x:Rat):Nv (Jg x)=Nr x.num:=by
 unfold Nv
 rw [Nx]
 by_cases h0:x=0
 ·subst h0;rw [if_pos S8];rfl
 ·have hn:x.num≠0:=fun e=>h0 (Rat.num_eq_zero.1 e)
  have h1:Jg x≠[48]:=by
   intro e
   have h2:=yz x
   unfold zT Nv at h2
   rw [if_pos e,if_neg (by decide),if_pos rfl,e] at h2
   by_cases hd:x.den=1
   ·have hv:=YG x.num
    rw [← (RR hd).1,e] at hv
    exact hn hv.symm
   ·have:=(Hi hd).2.2.1
    have hv:=YG x.num
    rw [← this,e] at hv
    have h3:=(Hi hd).2.1
    rw [e] at h3
    have h4:ahead XY [48]=1:=by decide
    rw [h4] at h3
    exact absurd h3 (by decide)
  rw [if_neg h1]
  unfold Nr
  by_cases g:x.num<0
  ·rw [if_pos (show(decide (x.num<0))=true by simpa using g),if_pos g]
  ·rw [if_neg (show ¬ (decide (x.num<0))=true by simpa using g),if_neg g,if_neg hn]
theorem dS (x:Rat):Nr x.num=if x<0 then -1 else if x=0 then 0 else 1:=by
 unfold Nr
 by_cases h:x<0
 ·rw [if_pos h,if_pos ((xG x).2 h)]
 ·rw [if_neg h,if_neg (fun g=>h ((xG x).1 g))]
  by_cases h0:x=0
  ·rw [if_pos h0,if_pos (Rat.num_eq_zero.2 h0)]
  ·rw [if_neg h0,if_neg (fun g=>h0 (Rat.num_eq_zero.1 g))]
theorem pP (x y:Rat):Nr (x - y).num=DY x y:=by
 rw [dS]
 unfold DY
 have h1:(x - y<0)↔x<y:=by grind
 have h2:(x - y=0)↔x=y:=by grind
 simp only [h1,h2]
theorem pH (n:Int):Jg (n:Rat)=X0 n:=by unfold Jg;rw [if_pos (by simp)];simp
theorem vQ {w:World} {F:Gs} {x y:Rat} (hF:Fits F w) (hx:JO x≤100000) (hy:JO y≤100000):Qc Tryz.prog 92 [tx (Jg x),tx (Jg y)] w F (tx (Jg (x+y))):=by
 refine QT.intro (G:=fun F=>True) Tryz.func92 rfl (by rfl) rfl rfl hF (fun F' hF'=>trivial)<|J_sr<|JS_as rfl<|JS_nt<|J_sr<|JS_mv rfl<|QH rfl (fun w F hF hT=>Av hF (hx)) (fun c17=>JH _ (fun w F hF h9=>h9.2) (fun p17=>JS_mv rfl<|QA (QK rfl rfl)<|QA (QK rfl rfl)<|QA (QK rfl rfl)<|JS_as rfl<|JS_as rfl<|JS_as rfl<|JS_nt<|J_sr<|JS_mv rfl<|QH rfl (fun w F hF h9=>Av hF (hy)) (fun c23=>JH _ (fun w F hF h9=>h9.2) (fun p23=>?_))))
 refine JS_mv rfl<|QA (QK rfl rfl)<|QA (QK rfl rfl)<|QA (QK rfl rfl)<|JS_as rfl<|JS_as rfl<|JS_as rfl<|JS_nt<|QG<|J_sr<|JS_mv rfl<|JS_mv rfl ?_
 refine Qn (t:=28) rfl (fun hb28=>?_) (fun hb28=>?_)
 ·
  refine QJ rfl rfl<|JS_mv rfl<|QA (Qj rfl rfl rfl)<|QE<|QC ?_
  refine QP rfl (fun hc=>?_) (fun hc=>?_)
  ·
   refine QG ?_
   obtain ⟨a1,a2,a3,a4⟩:=p17 hb28
   obtain ⟨b1,b2,b3,b4⟩:=p23 hc
   have xd:=x.den_pos
   have yd:=y.den_pos
   have e1:(x.num*y.den).natAbs<1000000000*1000000000:=by rw [Int.natAbs_mul];exact Nat.mul_lt_mul_of_lt_of_lt a3 (by omega)
   have e2:(y.num*x.den).natAbs<1000000000*1000000000:=by rw [Int.natAbs_mul];exact Nat.mul_lt_mul_of_lt_of_lt b3 (by omega)
   have e3:(x.num*y.num).natAbs<1000000000*1000000000:=by rw [Int.natAbs_mul];exact Nat.mul_lt_mul_of_lt_of_lt a3 b3
   have e4:((x.den:Int)*y.den).natAbs<1000000000*1000000000:=by rw [Int.natAbs_mul];exact Nat.mul_lt_mul_of_lt_of_lt (by omega) (by omega)
   have e5:(x.den:Int)*y.den≠0:=by have h1:=Yr x;have h2:=Yr y;exact Int.mul_ne_zero h1 h2
   rw [a1,a2,b1,b2]
   refine QB<|JS_mv rfl<|JS_mv rfl<|QA (Wo rfl rfl (by omega))<|JS_mv rfl<|JS_mv rfl<|QA (Wo rfl rfl (by omega))<|QA (Qp rfl rfl (by omega))<|JS_mv rfl<|JS_mv rfl<|QA (Wo rfl rfl (by omega))<|QH rfl (fun w F hF h9=>pj hF (by omega) (by omega) (e5)) (fun _=>JS_as rfl<|JS_nt<|QS ?_)
   exact F_r1 rfl rfl (by rw [GJ]) (fun F h9=>trivial)
  ·
   refine QO<|QC<|QG ?_
   have s1:=Ji x
   have s2:=Jd x
   have s3:=Ji y
   have s4:=Jd y
   have m1:=Vo x.num y.den
   have m2:=Vo y.num x.den
   have m3:=Vo (x.den:Int) y.den
   have m4:=Vo x.num y.num
   have m5:=Uk (x.num*y.den) (y.num*x.den)
   have e5:(x.den:Int)*y.den≠0:=Int.mul_ne_zero (Yr x) (Yr y)
   refine QB<|JS_mv rfl<|QH rfl (fun w F hF h9=>BO hF (hx)) (fun c44=>JS_mv rfl<|QA (QK rfl rfl)<|QA (QK rfl rfl)<|Qf Yj (fun b11=>Qf Yj (fun b12=>QQ (vs:=[_,_]) rfl rfl rfl JP rfl (.there .here) (.here (.here .nil)) ⟨rfl,rfl,trivial⟩<|QQ (vs:=[_,_]) rfl rfl rfl JP rfl .here (.here (.here .nil)) ⟨rfl,rfl,trivial⟩<|JS_nt<|J_sr<|JS_mv rfl<|QH rfl (fun w F hF h9=>BO hF (hy)) (fun c49=>JS_mv rfl<|QA (QK rfl rfl)<|QA (QK rfl rfl)<|Qf Yj (fun b13=>Qf Yj (fun b14=>QQ (vs:=[_,_]) rfl rfl rfl JP rfl (.there .here) (.here (.here .nil)) ⟨rfl,rfl,trivial⟩<|QQ (vs:=[_,_]) rfl rfl rfl JP rfl .here (.here (.here .nil)) ⟨rfl,rfl,trivial⟩<|QE<|QC ?_))))))
   refine QG<|JR subl_r mixed (by kernel_rfl)<|QM (QL (vs:=[_,_]) rfl JP (.there (.there (.there .here))) (.here (.here .nil)) rfl)<|QM (QL (vs:=[_,_]) rfl JP .here (.here (.here .nil)) rfl)<|Qg rfl (fun w F hF h9=>G6 hF (h9.1.2.1) (h9.2.2) (by omega) (by omega)) (fun c54=>QM (QL (vs:=[_,_]) rfl JP (.there .here) (.here (.here .nil)) rfl)<|QM (QL (vs:=[_,_]) rfl JP (.there (.there .here)) (.here (.here .nil)) rfl)<|Qg rfl (fun w F hF h9=>G6 hF (h9.1.2.1) (h9.1.1.2.2) (by omega) (by omega)) (fun c57=>Qg rfl (fun w F hF h9=>yh hF (h9.1.2) (h9.2) (by omega) (by omega)) (fun c58=>QM (QL (vs:=[_,_]) rfl JP (.there (.there .here)) (.here (.here .nil)) rfl)<|QM (QL (vs:=[_,_]) rfl JP .here (.here (.here .nil)) rfl)<|Qg rfl (fun w F hF h9=>G6 hF (h9.1.1.1.1.2.2) (h9.1.1.1.2.2) (by omega) (by omega)) (fun c61=>Qg rfl (fun w F hF h9=>D2 hF (h9.1.2) (h9.2) (e5) (by omega) (by omega)) (fun _=>QM (QF rfl)<|Q9<|QC<|QS ?_)))))
   exact F_r1 rfl rfl (by rw [GJ]) (fun F h9=>trivial)
 ·
  refine QN rfl rfl rfl<|QA (Qh rfl rfl rfl)<|JS_nt<|YF rfl<|QO<|QC<|QG ?_
  have s1:=Ji x
  have s2:=Jd x
  have s3:=Ji y
  have s4:=Jd y
  have m1:=Vo x.num y.den
  have m2:=Vo y.num x.den
  have m3:=Vo (x.den:Int) y.den
  have m4:=Vo x.num y.num
  have m5:=Uk (x.num*y.den) (y.num*x.den)
  have e5:(x.den:Int)*y.den≠0:=Int.mul_ne_zero (Yr x) (Yr y)
  refine QB<|JS_mv rfl<|QH rfl (fun w F hF h9=>BO hF (hx)) (fun c44=>JS_mv rfl<|QA (QK rfl rfl)<|QA (QK rfl rfl)<|Qf Yj (fun b11=>Qf Yj (fun b12=>QQ (vs:=[_,_]) rfl rfl rfl JP rfl (.there .here) (.here (.here .nil)) ⟨rfl,rfl,trivial⟩<|QQ (vs:=[_,_]) rfl rfl rfl JP rfl .here (.here (.here .nil)) ⟨rfl,rfl,trivial⟩<|JS_nt<|J_sr<|JS_mv rfl<|QH rfl (fun w F hF h9=>BO hF (hy)) (fun c49=>JS_mv rfl<|QA (QK rfl rfl)<|QA (QK rfl rfl)<|Qf Yj (fun b13=>Qf Yj (fun b14=>QQ (vs:=[_,_]) rfl rfl rfl JP rfl (.there .here) (.here (.here .nil)) ⟨rfl,rfl,trivial⟩<|QQ (vs:=[_,_]) rfl rfl rfl JP rfl .here (.here (.here .nil)) ⟨rfl,rfl,trivial⟩<|QE<|QC ?_))))))
  refine QG<|JR subl_r mixed (by kernel_rfl)<|QM (QL (vs:=[_,_]) rfl JP (.there (.there (.there .here))) (.here (.here .nil)) rfl)<|QM (QL (vs:=[_,_]) rfl JP .here (.here (.here .nil)) rfl)<|Qg rfl (fun w F hF h9=>G6 hF (h9.1.2.1) (h9.2.2) (by omega) (by omega)) (fun c54=>QM (QL (vs:=[_,_]) rfl JP (.there .here) (.here (.here .nil)) rfl)<|QM (QL (vs:=[_,_]) rfl JP (.there (.there .here)) (.here (.here .nil)) rfl)<|Qg rfl (fun w F hF h9=>G6 hF (h9.1.2.1) (h9.1.1.2.2) (by omega) (by omega)) (fun c57=>Qg rfl (fun w F hF h9=>yh hF (h9.1.2) (h9.2) (by omega) (by omega)) (fun c58=>QM (QL (vs:=[_,_]) rfl JP (.there (.there .here)) (.here (.here .nil)) rfl)<|QM (QL (vs:=[_,_]) rfl JP .here (.here (.here .nil)) rfl)<|Qg rfl (fun w F hF h9=>G6 hF (h9.1.1.1.1.2.2) (h9.1.1.1.2.2) (by omega) (by omega)) (fun c61=>Qg rfl (fun w F hF h9=>D2 hF (h9.1.2) (h9.2) (e5) (by omega) (by omega)) (fun _=>QM (QF rfl)<|Q9<|QC<|QS ?_)))))
  exact F_r1 rfl rfl (by rw [GJ]) (fun F h9=>trivial)
theorem uE {w:World} {F:Gs} {x y:Rat} (hF:Fits F w) (hx:JO x≤100000) (hy:JO y≤100000):Qc Tryz.prog 32 [tx (Jg x),tx (Jg y)] w F (tx (Jg (x - y))):=by
 have hly:=Gd y
 refine QT.intro (G:=fun F=>True) Tryz.func32 rfl (by rfl) rfl rfl hF (fun F' hF'=>trivial)<|J_sr<|JS_as rfl<|JS_nt<|J_sr<|JS_mv rfl<|JS_mv rfl<|QH rfl (fun w F hF hT=>uI hF (by omega)) (fun _=>?_)
 rw [yz]
 refine QH rfl (fun w F hF h9=>vQ hF (hx) (by rw [Eo];exact hy)) (fun _=>JS_as rfl<|JS_nt<|QS ?_)
 exact F_r1 rfl rfl (by rw [Rat.sub_eq_add_neg]) (fun F h9=>trivial)
theorem uM {w:World} {F:Gs} {x y:Rat} (hF:Fits F w) (hx:JO x≤30000) (hy:JO y≤30000):Qc Tryz.prog 30 [tx (Jg x),tx (Jg y)] w F (.int .i64 (DY x y)):=by
 refine QT.intro (G:=fun F=>True) Tryz.func30 rfl (by rfl) rfl rfl hF (fun F' hF'=>trivial)<|J_sr<|JS_as rfl<|JS_nt<|J_sr<|JS_mv rfl<|JS_mv rfl<|QH rfl (fun w F hF hT=>uE hF (by omega) (by omega)) (fun _=>QH rfl (fun w F hF h9=>LG hF ) (fun _=>JS_as rfl<|JS_nt<|QS ?_))
 exact F_r1 rfl rfl (by rw [jt,pP]) (fun F h9=>trivial)
end
section
open Go.RowKit Ig
theorem kD {w:World} {F:Gs} {s:List UInt8} (hF:Fits F w) (hl:s.length≤1000000) (h1:XH (Lib.trimPrefix (s.take (ahead XY s)) [45])=true) (h2:ahead XY s<s.length→XH (Lib.trimPrefix (s.drop (ahead XY s+1)) [45])=true):QT Tryz.prog 119 [tx s] w F Ri.v2 (fun c F=>VZ F c.1 (Zz (s.take (ahead XY s)))∧(ahead XY s<s.length→VZ F c.2 (Zz (s.drop (ahead XY s+1))))):=by
 have hah:=Bz XY s
 refine QT.intro (G:=fun F=>True) Tryz.func119 rfl (by rfl) rfl rfl hF (fun F' hF'=>trivial)<|J_sr<|Qf Yj (fun b2=>Qf Yj (fun b3=>JS_nt<|J_sr<|JS_mv rfl<|JS_as rfl<|JS_nt<|J_sr<|JS_mv rfl<|QH rfl (fun w F hF hT=>D0 hF (by omega)) (fun _=>JS_as rfl<|JS_nt<|QG<|J_sr<|JS_mv rfl<|JS_mv rfl ?_)))
 refine QA (XA rfl Xn)<|QA (QU rfl rfl rfl)<|QE<|QC ?_
 refine QP rfl (fun hc=>?_) (fun hc=>?_)
 ·
  have hd:ahead XY s=s.length:=by have:(ahead XY s:Int)=(s.length:Int):=(by simpa using hc);omega
  refine J_sr<|JS_mv rfl<|QH rfl (fun w F hF h9=>G7 hF (by rw [hd,List.take_length] at h1;exact h1) (by omega)) (fun c14=>QH rfl (fun w F hF h9=>MW hF (by decide)) (fun c15=>QQ (vs:=[_,_]) rfl rfl rfl JP rfl (.there .here) (.here (.here .nil)) ⟨rfl,rfl,trivial⟩<|QQ (vs:=[_,_]) rfl rfl rfl JP rfl .here (.here (.here .nil)) ⟨rfl,rfl,trivial⟩<|JS_nt<|QS ?_))
  exact JX ((c14,c15):Ri×Ri) rfl (.Jc (c:=[_,_]) rfl JP (.there .here) (.Jc (c:=[_,_]) rfl JP .here .nil)) (rfl) (fun F h9=>⟨by rw [hd,List.take_length];exact h9.1.2,fun g=>by omega⟩)
 ·
  have hd:ahead XY s<s.length:=by rcases Nat.lt_or_ge (ahead XY s) s.length with g | g;exact g;exact absurd (show ahead XY s=s.length by omega) (fun e=>by rw [e] at hc;simp at hc)
  refine QO<|QC<|QG<|JR (.cons _ (.cons _ .slnil)) mixed (by kernel_rfl)<|QM (QD rfl)<|QM (QD rfl)<|QM (Ha (ahead XY s) rfl rfl Xn rfl (by omega))<|Qg rfl (fun w F hF h9=>G7 hF (h1) (by rw [List.length_take];omega)) (fun c19=>QM (QD rfl)<|QM (QD rfl)<|QM (Qp rfl rfl (by omega))<|QM (Kr ((ahead XY s+1)) rfl rfl Xn (congrArg (fun z:Int=>some (Value.int .i64 z)) (by omega)) (by omega))<|Qg rfl (fun w F hF h9=>G7 hF (h2 hd) (by rw [List.length_drop];omega)) (fun c24=>Jh (vs:=[_,_]) rfl rfl rfl JP rfl (.there .here) (.cons _ .slnil) (fun _ h=>h.1.1) (.here (.here .nil)) ⟨rfl,rfl,trivial⟩<|Jh (vs:=[_,_]) rfl rfl rfl JP rfl .here (.cons _ .slnil) (fun _ h=>h.1.1) (.here (.here .nil)) ⟨rfl,rfl,trivial⟩<|Q9<|QC<|QS ?_))
  exact JX ((c19,c24):Ri×Ri) rfl (.Jc (c:=[_,_]) rfl JP (.there .here) (.Jc (c:=[_,_]) rfl JP .here .nil)) (rfl) (fun F h9=>⟨h9.1.2,fun _=>h9.2⟩)
theorem LS {l:List UInt8} (h:(!XU l)=false):0<l.length:=by
 rcases Nat.eq_zero_or_pos l.length with g | g
 ·rw [List.eq_nil_of_length_eq_zero g] at h;simp [XU] at h
 ·exact g
theorem dN {p:UInt8→Bool} {s:List UInt8} (h:∀ c∈s,p c=true):s.takeWhile p=s:=by
 induction s with
 |nil=>rfl
 |cons c r ih=>rw [List.takeWhile_cons_of_pos (h c (by simp)),ih (fun d hd=>h d (by simp [hd]))]
theorem yf {l:List UInt8} (h:XH l=true):sz (JB l:Int)≤4*l.length:=by
 rw [Xv]
 have h1:=Vv h
 have h2:10^l.length≤2^(4*l.length):=by rw [Nat.pow_mul];exact Nat.pow_le_pow_left (by decide) _
 simp;omega
theorem kW (s:List UInt8):(ZS 47 s).1=s.take (ahead XY s)∧(ZS 47 s).2.1=s.drop (ahead XY s+1)∧(ZS 47 s).2.2=decide (ahead XY s<s.length):=by
 have hf:(fun c:UInt8=>!XY c)=fun c=>c != 47:=by funext c;simp [XY,bne]
 have h1:=K7 (fun c:UInt8=>c != 47) s
 have ha:ahead XY s=(s.takeWhile (fun c=>c != 47)).length:=by unfold ahead;rw [hf]
 rw [ha]
 by_cases hc:s.contains 47=true
 ·have e:ZS 47 s=(s.takeWhile (· != 47),(s.dropWhile (· != 47)).drop 1,true):=by unfold ZS;rw [if_pos hc]
  rw [e]
  obtain ⟨r,hr⟩:=Dq (show(47:UInt8)∈s by simpa using hc)
  have hd:=h1.2
  rw [hr] at hd
  refine⟨h1.1.symm,?_,?_⟩
  ·show(s.dropWhile (· != 47)).drop 1=_
   rw [hr,← List.drop_drop,hd]
  ·have:(s.takeWhile (fun c=>c != 47)).length<s.length:=by
    have:=congrArg List.length hd
    rw [List.length_drop,List.length_cons] at this;omega
   simp [this]
 ·have e:ZS 47 s=(s,[],false):=by unfold ZS;rw [if_neg hc]
  rw [e]
  have h2:s.takeWhile (fun c=>c != 47)=s:=by
   refine dN fun c hm=>?_
   have:c≠47:=by rintro rfl;exact hc (by simpa using hm)
   simpa using this
  rw [h2]
  simp
theorem kz (s:List UInt8):Lib.trimPrefix (ZS 47 s).1 [45]=(ZS 47 (Lib.trimPrefix s [45])).1∧Lib.hasPrefix (ZS 47 s).1 [45]=Lib.hasPrefix s [45]∧(ZS 47 s).2=(ZS 47 (Lib.trimPrefix s [45])).2:=by
 cases s with
 |nil=>exact⟨rfl,rfl,rfl⟩
 |cons c r =>
  by_cases hc:c=45
  ·subst hc
   have e:Lib.trimPrefix (45::r) [45]=r:=rfl
   rw [e]
   unfold ZS
   have h0:((45:UInt8)::r).contains 47=r.contains 47:=by simp
   rw [h0]
   split
   ·exact⟨rfl,rfl,rfl⟩
   ·exact⟨rfl,rfl,rfl⟩
  ·have hp:Lib.hasPrefix (c::r) [45]=false:=by
    rw [W6 (by simp)];simpa using hc
   have e:Lib.trimPrefix (c::r) [45]=c::r:=by unfold Lib.trimPrefix;rw [if_neg (by rw [hp];decide)]
   rw [e]
   have e2:∀ l:List UInt8,Lib.hasPrefix l [45]=false→Lib.trimPrefix l [45]=l:=fun l h=>by unfold Lib.trimPrefix;rw [if_neg (by rw [h];decide)]
   have h3:Lib.hasPrefix (ZS 47 (c::r)).1 [45]=false:=by
    unfold ZS
    split
    ·by_cases h47:c=47
     ·subst h47;rfl
     ·rw [List.takeWhile_cons_of_pos (by simpa using h47),W6 (by simp)];simpa using hc
    ·exact hp
   exact⟨e2 _ h3,by rw [h3,hp],rfl⟩
theorem pR {s:List UInt8} (h1:LB s=false) (h2:Ip s=false) (hk:ahead XY (Lib.trimPrefix s [45])<(Lib.trimPrefix s [45]).length):XH ((Lib.trimPrefix s [45]).take (ahead XY (Lib.trimPrefix s [45])))=true∧XH (E5 s)=true:=by
 have hs:PU s=true:=by simp [PU];exact hk
 simp only [LB,Bool.or_eq_false_iff,Bool.not_eq_false'] at h1
 simp only [Ip,hs,Bool.true_and,Bool.or_eq_false_iff,Bool.not_eq_false'] at h2
 exact⟨VE h1.1,VE h2.1⟩
theorem kU (s:List UInt8):SK s=Ja s:=by
 obtain ⟨t1,t2,t3⟩:=kz s
 obtain ⟨c1,c2,c3⟩:=kW (Lib.trimPrefix s [45])
 have t4:(ZS 47 s).2.1=E5 s:=by rw [t3,c2];rfl
 have t5:(ZS 47 s).2.2=PU s:=by rw [t3,c3];rfl
 have hlen:(Lib.trimPrefix s [45]).take (ahead XY (Lib.trimPrefix s [45]))=(Lib.trimPrefix s [45]).take (ahead XY (Lib.trimPrefix s [45])):=rfl
 have hk:((Lib.trimPrefix s [45]).take (ahead XY (Lib.trimPrefix s [45]))).length=ahead XY (Lib.trimPrefix s [45]):=by
  rw [List.length_take];have:=Bz XY (Lib.trimPrefix s [45]);omega
 unfold Ja Wk SK UW LB Ip LA Ot
 rw [t1,t2,t4,t5,c1,hk]
 generalize (Lib.trimPrefix s [45]).take (ahead XY (Lib.trimPrefix s [45]))=a
 generalize E5 s=d
 generalize PU s=f
 generalize Lib.hasPrefix s [45]=n
 have e:(!XU a||(n&&a==[48])||(f&&(!XU d||d==[48]||d==[49])))=((!XU a||(n&&a==[48]))||(f&&(!XU d||(d==[48]||d==[49])))):=by rw [Bool.or_assoc (!XU d)]
 rw [e]
 cases (!XU a||(n&&a==[48]))<;>cases (f&&(!XU d||(d==[48]||d==[49])))<;>rfl
theorem Cc {w:World} {F:Gs} {s:List UInt8} (hF:Fits F w) (hl:s.length≤9223372036854775807):Qc Tryz.prog 20 [tx s] w F (.int .i64 (Ja s)):=by
 rw [← kU]
 have hln:(Lib.trimPrefix s [45]).length≤s.length:=Dv _ _
 have hah:=Bz XY (Lib.trimPrefix s [45])
 refine QT.intro (G:=fun F=>True) Tryz.func20 rfl (by rfl) rfl rfl hF (fun F' hF'=>trivial)<|J_sr<|JS_as rfl<|JS_nt<|J_sr<|JS_mv rfl<|JS_as rfl<|QE<|QC ?_
 refine K5 [(0,_)] [(3,tx (Lib.trimPrefix s [45]))] ⟨rfl,trivial⟩ ?_ ?_
 ·
  refine K5 [(0,_),(3,_)] [(16,.bool (Lib.hasPrefix s [45]))] ⟨rfl,rfl,trivial⟩ ?_ ?_
  ·
   refine QB<|JS_mv rfl<|QA (XA rfl Xn)<|QA (QU rfl rfl rfl)<|JS_mv rfl ?_
   refine Qn (t:=12) rfl (fun hb12=>?_) (fun hb12=>?_)
   ·
    refine QJ rfl rfl<|JS_mv rfl<|QJ rfl rfl<|QA (Vw (i:=0) rfl rfl Xn (by have:=dec_t hb12;omega))<|QJ rfl rfl<|QA (QU rfl rfl rfl)<|QA (Qj rfl rfl rfl)<|QE ?_
    exact ZB ⟨rfl,rfl,(congrArg (fun b=>some (Value.bool b)) (by have h0:0<s.length:=(by have:=dec_t hb12;omega);rw [W6 h0];exact Em rfl)),trivial⟩ subl_r (fun _ h=>h)
   ·
    refine QN rfl rfl rfl<|QN rfl rfl rfl<|QN rfl rfl rfl<|QA (Qh rfl rfl rfl)<|QE ?_
    exact ZB ⟨rfl,rfl,(congrArg (fun b=>some (Value.bool b)) (by have h0:s.length=0:=(by have:=dec_f hb12;omega);rw [List.eq_nil_of_length_eq_zero h0];rfl)),trivial⟩ subl_r (fun _ h=>h)
  ·
   simp only [List.cons_append,List.nil_append]
   refine QP rfl (fun hc=>?_) (fun hc=>?_)
   ·
    refine QB<|JS_mv rfl<|QA (Kr (1) rfl rfl Xn rfl (M3 hc))<|JS_as rfl<|QE ?_
    exact ZB ⟨rfl,(congrArg (fun l=>some (tx l)) (by unfold Lib.trimPrefix;rw [if_pos hc];rfl)),trivial⟩ subl_r (fun _ h=>h)
   ·
    refine QO ?_
    exact ZB ⟨rfl,(congrArg (fun l=>some (tx l)) (by unfold Lib.trimPrefix;rw [hc];rfl)),trivial⟩ subl_r (fun _ h=>h)
 ·
  simp only [List.cons_append,List.nil_append]
  refine J_sr<|JS_mv rfl<|QH rfl (fun w F hF hT=>D0 hF (by omega)) (fun _=>JS_as rfl<|JS_nt<|QG ?_)
  refine K5 [(3,_),(4,_)] [(36,.bool (LB s))] ⟨rfl,rfl,trivial⟩ ?_ ?_
  ·
   refine QB<|JS_mv rfl<|JS_mv rfl<|QA (Ha ((ahead XY (Lib.trimPrefix s [45]))) rfl rfl Xn rfl (by omega))<|QH rfl (fun w F hF h9=>yi hF (by rw [List.length_take];omega)) (fun _=>QA (Z0 rfl)<|JS_mv rfl ?_)
   refine Qn (t:=26) rfl (fun hb26=>?_) (fun hb26=>?_)
   ·
    refine QN rfl rfl rfl<|QN rfl rfl rfl<|QN rfl rfl rfl<|QN rfl rfl rfl<|JU rfl rfl<|JU rfl rfl<|JU rfl rfl<|JU rfl rfl<|QN rfl rfl rfl<|QA (Qj rfl rfl rfl)<|QE ?_
    exact ZB ⟨rfl,rfl,(congrArg (fun b=>some (Value.bool b)) (by simp [LB] at hb26 ⊢;simp [hb26])),trivial⟩ subl_r (fun _ h=>h.1)
   ·
    refine QJ rfl rfl<|JS_mv rfl<|QJ rfl rfl<|QA (Vw (i:=0) rfl rfl En (by have h1:=LS hb26;rw [List.length_take] at h1;omega))<|QJ rfl rfl<|QA (QU rfl rfl rfl)<|QJ rfl rfl<|JS_mv rfl ?_
    refine Qn (t:=30) rfl (fun hb30=>?_) (fun hb30=>?_)
    ·
     refine QJ rfl rfl<|JS_mv rfl<|QJ rfl rfl<|JS_mv rfl<|QJ rfl rfl<|QA (Ha ((ahead XY (Lib.trimPrefix s [45]))) rfl rfl Xn rfl (by omega))<|QJ rfl rfl<|QA (KY rfl rfl)<|QJ rfl rfl<|QA (Qj rfl rfl rfl)<|QA (Qh rfl rfl rfl)<|QE ?_
     exact ZB ⟨rfl,rfl,(congrArg (fun b=>some (Value.bool b)) (by have h0:0<s.length:=(by have h1:=LS hb26;rw [List.length_take] at h1;omega);have hp:Lib.hasPrefix s [45]=true:=(by rw [W6 h0,← Em (z:=45) rfl];exact hb30);simp [LB] at hb26 ⊢;simp [hb26,hp])),trivial⟩ subl_r (fun _ h=>h.1)
    ·
     refine QN rfl rfl rfl<|QN rfl rfl rfl<|QN rfl rfl rfl<|QN rfl rfl rfl<|QJ rfl rfl<|QA (Qh rfl rfl rfl)<|QA (Qh rfl rfl rfl)<|QE ?_
     exact ZB ⟨rfl,rfl,(congrArg (fun b=>some (Value.bool b)) (by have h0:0<s.length:=(by have h1:=LS hb26;rw [List.length_take] at h1;omega);have hp:Lib.hasPrefix s [45]=false:=(by rw [W6 h0,← Em (z:=45) rfl];exact hb30);simp [LB] at hb26 ⊢;simp [hb26,hp])),trivial⟩ subl_r (fun _ h=>h.1)
  ·
   simp only [List.cons_append,List.nil_append]
   refine QP rfl (fun hc=>?_) (fun hc=>?_)
   ·
    have hb1:LB s=true:=hc
    refine J_sr<|JS_as rfl<|JS_nt<|QS ?_
    exact F_r1 rfl rfl (congrArg (Value.int .i64) (by simp [SK,hb1])) (fun F h9=>trivial)
   ·
    have hb1:LB s=false:=hc
    refine QO<|QC<|QG ?_
    refine K5 [(3,_),(4,_)] [(62,.bool (Ip s))] ⟨rfl,rfl,trivial⟩ ?_ ?_
    ·
     refine QB<|JS_mv rfl<|JS_mv rfl<|QA (XA rfl Xn)<|QA (QU rfl rfl rfl)<|JS_mv rfl ?_
     refine Qn (t:=41) rfl (fun hb41=>?_) (fun hb41=>?_)
     ·
      refine QJ rfl rfl<|JS_mv rfl<|QJ rfl rfl<|JS_mv rfl<|QJ rfl rfl<|QA (Qp rfl rfl (by first | omega | (simp only [decide_eq_true_eq] at *;omega)))<|QJ rfl rfl<|QA (Kr (((ahead XY (Lib.trimPrefix s [45]))+1)) rfl rfl Xn (congrArg (fun z:Int=>some (Value.int .i64 z)) (by omega)) (by have:=dec_t hb41;omega))<|QJ rfl rfl<|QH rfl (fun w F hF h9=>yi hF (by rw [List.length_drop];omega)) (fun _=>QJ rfl rfl<|QA (Z0 rfl)<|QJ rfl rfl<|JS_mv rfl ?_)
      refine Qn (t:=48) rfl (fun hb48=>?_) (fun hb48=>?_)
      ·
       refine QN rfl rfl rfl<|QN rfl rfl rfl<|QN rfl rfl rfl<|QN rfl rfl rfl<|QN rfl rfl rfl<|QJ rfl rfl<|QA (Qj rfl rfl rfl)<|QJ rfl rfl<|JS_mv rfl<|QN rfl rfl rfl<|QN rfl rfl rfl<|QN rfl rfl rfl<|QN rfl rfl rfl<|QN rfl rfl rfl<|QJ rfl rfl<|QA (Qj rfl rfl rfl)<|QA (Qj rfl rfl rfl)<|QE ?_
       exact ZB ⟨rfl,rfl,(congrArg (fun b=>some (Value.bool b)) (by have h1:PU s=true:=(by simp [PU];simpa using hb41);simp [Ip,h1];simp at hb48;exact .inl hb48)),trivial⟩ subl_r (fun _ h=>h.1)
      ·
       refine QJ rfl rfl<|JS_mv rfl<|QJ rfl rfl<|JS_mv rfl<|QJ rfl rfl<|QA (Qp rfl rfl (by first | omega | (simp only [decide_eq_true_eq] at *;omega)))<|QJ rfl rfl<|QA (Kr (((ahead XY (Lib.trimPrefix s [45]))+1)) rfl rfl Xn (congrArg (fun z:Int=>some (Value.int .i64 z)) (by omega)) (by have:=dec_t hb41;omega))<|QJ rfl rfl<|QA (KY rfl rfl)<|QJ rfl rfl<|QA (Qh rfl rfl rfl)<|QJ rfl rfl<|JS_mv rfl ?_
       refine Qn (t:=55) rfl (fun hb55=>?_) (fun hb55=>?_)
       ·
        refine QN rfl rfl rfl<|QN rfl rfl rfl<|QN rfl rfl rfl<|QN rfl rfl rfl<|QN rfl rfl rfl<|QJ rfl rfl<|QA (Qj rfl rfl rfl)<|QA (Qj rfl rfl rfl)<|QE ?_
        exact ZB ⟨rfl,rfl,(congrArg (fun b=>some (Value.bool b)) (by have h1:PU s=true:=(by simp [PU];simpa using hb41);simp [Ip,h1];exact .inr (.inl (by simpa [E5] using hb55)))),trivial⟩ subl_r (fun _ h=>h.1)
       ·
        refine QJ rfl rfl<|JS_mv rfl<|QJ rfl rfl<|JS_mv rfl<|QJ rfl rfl<|QA (Qp rfl rfl (by first | omega | (simp only [decide_eq_true_eq] at *;omega)))<|QJ rfl rfl<|QA (Kr (((ahead XY (Lib.trimPrefix s [45]))+1)) rfl rfl Xn (congrArg (fun z:Int=>some (Value.int .i64 z)) (by omega)) (by have:=dec_t hb41;omega))<|QJ rfl rfl<|QA (KY rfl rfl)<|QJ rfl rfl<|QA (Qh rfl rfl rfl)<|QA (Qj rfl rfl rfl)<|QE ?_
        exact ZB ⟨rfl,rfl,(congrArg (fun b=>some (Value.bool b)) (by have h1:PU s=true:=(by simp [PU];simpa using hb41);simp at hb48 hb55;simp [Ip,h1,E5,hb48,hb55])),trivial⟩ subl_r (fun _ h=>h.1)
     ·
      refine QN rfl rfl rfl<|QN rfl rfl rfl<|QN rfl rfl rfl<|QN rfl rfl rfl<|QN rfl rfl rfl<|QN rfl rfl rfl<|QN rfl rfl rfl<|JU rfl rfl<|JU rfl rfl<|JU rfl rfl<|JU rfl rfl<|JU rfl rfl<|QN rfl rfl rfl<|QN rfl rfl rfl<|JU rfl rfl<|JU rfl rfl<|JU rfl rfl<|JU rfl rfl<|JU rfl rfl<|QN rfl rfl rfl<|QA (Qh rfl rfl rfl)<|QE ?_
      exact ZB ⟨rfl,rfl,(congrArg (fun b=>some (Value.bool b)) (by have h1:PU s=false:=(by simp [PU];simpa using hb41);simp [Ip,h1])),trivial⟩ subl_r (fun _ h=>h)
    ·
     simp only [List.cons_append,List.nil_append]
     refine QP rfl (fun hc=>?_) (fun hc=>?_)
     ·
      have hb2:Ip s=true:=hc
      refine J_sr<|JS_as rfl<|JS_nt<|QS ?_
      exact F_r1 rfl rfl (congrArg (Value.int .i64) (by simp [SK,hb1,hb2])) (fun F h9=>trivial)
     ·
      have hb2:Ip s=false:=hc
      refine QO<|QC<|QG ?_
      refine K5 [(3,_),(4,_)] [(72,.bool (LA s))] ⟨rfl,rfl,trivial⟩ ?_ ?_
      ·
       refine QB<|JS_mv rfl<|QA (QU rfl rfl rfl)<|JS_mv rfl ?_
       refine Qn (t:=65) rfl (fun hb65=>?_) (fun hb65=>?_)
       ·
        refine QN rfl rfl rfl<|QN rfl rfl rfl<|QN rfl rfl rfl<|QN rfl rfl rfl<|QN rfl rfl rfl<|QN rfl rfl rfl<|QA (Qj rfl rfl rfl)<|QE ?_
        exact ZB ⟨rfl,rfl,(congrArg (fun b=>some (Value.bool b)) (by have:=dec_t hb65;simp [LA];left;omega)),trivial⟩ subl_r (fun _ h=>h)
       ·
        refine QJ rfl rfl<|JS_mv rfl<|QJ rfl rfl<|QA (XA rfl Xn)<|QJ rfl rfl<|JS_mv rfl<|QJ rfl rfl<|QA (J7 rfl rfl (by omega))<|QJ rfl rfl<|QA (J7 rfl rfl (by omega))<|QJ rfl rfl<|QA (QU rfl rfl rfl)<|QA (Qh rfl rfl rfl)<|QE ?_
        exact ZB ⟨rfl,rfl,(congrArg (fun b=>some (Value.bool b)) (by rw [Bool.eq_iff_iff];have:=dec_f hb65;simp [LA,E5];omega)),trivial⟩ subl_r (fun _ h=>h)
      ·
       simp only [List.cons_append,List.nil_append]
       refine QP rfl (fun hc=>?_) (fun hc=>?_)
       ·
        have hb3:LA s=true:=hc
        refine J_sr<|JS_as rfl<|JS_nt<|QS ?_
        exact F_r1 rfl rfl (congrArg (Value.int .i64) (by simp [SK,hb1,hb2,hb3])) (fun F h9=>trivial)
       ·
        have hb3:LA s=false:=hc
        have hk6:ahead XY (Lib.trimPrefix s [45])≤600:=by simp [LA] at hb3;exact hb3.1
        refine QO<|QC<|QG<|J_sr<|JS_mv rfl<|JS_mv rfl<|QA (XA rfl Xn)<|QA (QU rfl rfl rfl)<|QE<|QC ?_
        refine QP rfl (fun hc=>?_) (fun hc=>?_)
        ·
         have hk:ahead XY (Lib.trimPrefix s [45])<(Lib.trimPrefix s [45]).length:=by have:=dec_t hc;omega
         obtain ⟨da,dd⟩:=pR hb1 hb2 hk
         refine J_sr<|JS_mv rfl<|QH rfl (fun w F hF h9=>kD hF (s:=(Lib.trimPrefix s [45])) (by have h6:(E5 s).length≤600:=(by simp [LA] at hb3;exact hb3.2);have h7:(E5 s).length=(Lib.trimPrefix s [45]).length - (ahead XY (Lib.trimPrefix s [45])+1):=(by unfold E5;rw [List.length_drop]);omega) (by rw [ZX da];exact da) (fun _=>by rw [show(List.drop (ahead XY (Lib.trimPrefix s [45])+1) (Lib.trimPrefix s [45]))=E5 s from rfl,ZX dd];exact dd)) (fun c79=>JS_mv rfl<|QA (QK rfl rfl)<|QA (QK rfl rfl)<|Qf Yj (fun b5=>Qf Yj (fun b6=>QQ (vs:=[_,_]) rfl rfl rfl JP rfl (.there .here) (.here (.here .nil)) ⟨rfl,rfl,trivial⟩<|QQ (vs:=[_,_]) rfl rfl rfl JP rfl .here (.here (.here .nil)) ⟨rfl,rfl,trivial⟩<|JS_nt<|QG<|X3 _ (fun w F hF h=>And.intro h.2.1.p (And.intro (h.2.2 hk).p (And.intro h.2.1.1.2.1 (h.2.2 hk).1.2.1))) (fun pp=>?_))))
         obtain ⟨pa,pd,na,nd⟩:=pp
         rw [XK da] at pa
         have pd2:=pd
         rw [show Zz ((Lib.trimPrefix s [45]).drop (ahead XY (Lib.trimPrefix s [45])+1))=JB (E5 s) from XK dd] at pd2
         have la:=pa.len
         have ld:=pd2.len
         have sa:=yf da
         have sd:=yf dd
         have h600:(E5 s).length≤600:=by simp [LA] at hb3;exact hb3.2
         rw [List.length_take] at sa
         refine QB<|QA (QI rfl Z6 Qv)<|QA (Qo rfl Qv (.there .here) (.skip (.here .nil)))<|QA (QI rfl Z6 Qv)<|QA (Qo rfl Qv .here (.skip (.here .nil))) ?_
         refine QH rfl (fun w F hF h9=>Cb hF (a:=c79.1.l) (b:=c79.2.l) (ra:=c79.1.r) (rb:=c79.2.r) h9.2.1.1 ((h9.2.2 hk).1) (pa.dg) (pd.dg) (pa.nz) (pd.nz) (by omega) (by omega)) (fun c86=>?_);rcases c86 with ⟨v86,l86⟩;dsimp only
         refine JH _ (fun w F hF ⟨⟨⟨hT,_⟩,h79⟩,⟨h86,h86p⟩⟩=>And.intro h86.2 h86p) (fun p86=>JS_as rfl<|QE<|QC ?_)
         refine K5 [] [(95,.bool (Ot s))] trivial ?_ ?_
         ·
          have hgc:dv B9 l86=(Nat.gcd (JB ((Lib.trimPrefix s [45]).take (ahead XY (Lib.trimPrefix s [45])))) (JB (E5 s)):Nat):=by
           rw [p86.2.2.2,xQ pa pd2];rfl
          have hone:=OR p86.2.1 p86.2.2.1
          have hsl:PU s=true:=by simp [PU];exact hk
          refine QB<|JS_mv rfl<|QA (Qi rfl Qd)<|QA (QU rfl rfl rfl)<|JS_mv rfl ?_
          refine Qn (t:=90) rfl (fun hb90=>?_) (fun hb90=>?_)
          ·
           refine QN rfl rfl rfl<|QN rfl rfl rfl<|QN rfl rfl rfl<|QN rfl rfl rfl<|QA (Qj rfl rfl rfl)<|QE ?_
           exact ZB ⟨(congrArg (fun b=>some (Value.bool b)) (by have h1:¬ l86.length=1:=(by simp at hb90;omega);rw [Bool.eq_iff_iff];simp [Ot,hsl];intro g;exact h1 (hone.2 (by rw [hgc,g];rfl)).1)),trivial⟩ subl_r (fun _ h=>h)
          ·
           have hn1:v86.n=1:=by simp at hb90;omega
           refine QJ rfl rfl<|JS_mv rfl<|QJ rfl rfl<|QA (JK (n:=v86.n) (0) (fun F h9=>(h9.2.1).1) rfl (congrArg (fun z:Int=>some (Value.int .i64 z)) (by omega)) Qd Qs (by omega))<|QJ rfl rfl<|QA (JM (n:=v86.n) ((0)*1) (fun F h9=>(h9.2.1).1) (by omega) rfl Qs (JJ (o:=l86) (by omega)))<|QJ rfl rfl<|QA (QU rfl rfl rfl)<|QA (Qh rfl rfl rfl)<|QE ?_
           exact ZB ⟨(congrArg (fun b=>some (Value.bool b)) (by have h1:l86.length=1:=(by omega);rw [Bool.eq_iff_iff];simp [Ot,hsl];exact not_congr ⟨fun e=>by have h2:=hone.1 ⟨h1,e⟩;rw [hgc] at h2;omega,fun e=>(hone.2 (by rw [hgc,e];rfl)).2⟩)),trivial⟩ subl_r (fun _ h=>h)
         ·
          simp only [List.cons_append,List.nil_append]
          refine QP rfl (fun hc=>?_) (fun hc=>?_)
          ·
           have hg4:Ot s=true:=hc
           refine J_sr<|JS_as rfl<|JS_nt<|QS ?_
           exact F_r1 rfl rfl (congrArg (Value.int .i64) (by simp [SK,hb1,hb2,hb3,hg4])) (fun F h9=>trivial)
          ·
           have hg4:Ot s=false:=hc
           refine QO<|QC<|J_sr<|JS_as rfl<|JS_nt<|QS ?_
           exact F_r1 rfl rfl (congrArg (Value.int .i64) (by simp [SK,hb1,hb2,hb3,hg4])) (fun F h9=>trivial)
        ·
         have hg4:Ot s=false:=by have:=dec_f hc;simp [Ot,PU];intro g;omega
         refine QO<|QC<|J_sr<|JS_as rfl<|JS_nt<|QS ?_
         exact F_r1 rfl rfl (congrArg (Value.int .i64) (by simp [SK,hb1,hb2,hb3,hg4])) (fun F h9=>trivial)
theorem S7 {w:World} {F:Gs} {s:List UInt8} (hF:Fits F w) (hl:s.length≤1000000):Qc Tryz.prog 20 [tx s] w F (.int .i64 (Ja s)) :=
 Cc hF (Nat.le_trans hl (by decide))
end
section
open Go.RowKit Ig
theorem dY {w:World} {F:Gs} {a b:List UInt8} (hF:Fits F w) (ha:Ja a=0) (hb:Ja b=0):Qc Tryz.prog 30 [tx a,tx b] w F (.int .i64 (DY (Jk a) (Jk b))):=by
 have h1:=XR ha
 have h2:=XR hb
 have:=uM (x:=Jk a) (y:=Jk b) hF (by omega) (by omega)
 rw [← (ZO ha).1,← (ZO hb).1] at this;exact this
theorem dZ {w:World} {F:Gs} {lo hi:List UInt8} (hF:Fits F w) (hl:lo.length≤1000000∧hi.length≤1000000):Qc Tryz.prog 21 [.agg #[tx lo,tx hi]] w F (.int .i64 (XD lo hi)):=by
 refine QT.intro (G:=fun F=>True) Tryz.func21 rfl (by rfl) rfl rfl hF (fun F' hF'=>trivial)<|J_sr<|Q5 rfl (vs:=[_,_]) rfl (fun b1=>JS_as rfl<|JS_nt<|J_sr<|QA (QI rfl Eb Jy)<|QA (Qo rfl Jy .here (.here .nil))<|QH rfl (fun w F hF hT=>S7 hF (hl.1)) (fun _=>JS_as rfl<|QE<|QC ?_))
 refine K5 [(1,_)] [(3,.int .i64 (Qm [Ja lo,Ja hi]))] ⟨rfl,trivial⟩ ?_ ?_
 ·
  refine J_sr<|JS_mv rfl<|QA (QU rfl rfl rfl)<|QE<|QC ?_
  refine QP rfl (fun hc=>?_) (fun hc=>?_)
  ·
   refine QB<|QA (QI rfl Ea Jy)<|QA (Qo rfl Jy .here (.skip (.here .nil)))<|QH rfl (fun w F hF h9=>S7 hF (hl.2)) (fun _=>JS_as rfl<|QE ?_)
   exact ZB ⟨rfl,(congrArg (fun z:Int=>some (Value.int .i64 z)) (by simp [Qm];simp at hc;simp [hc])),trivial⟩ subl_r (fun _ h=>h.1)
  ·
   refine QO ?_
   exact ZB ⟨rfl,(congrArg (fun z:Int=>some (Value.int .i64 z)) (by simp [Qm];simp at hc;simp [hc])),trivial⟩ subl_r (fun _ h=>h)
 ·
  simp only [List.cons_append,List.nil_append]
  refine QG<|J_sr<|JS_mv rfl<|QA (QU rfl rfl rfl)<|JS_mv rfl ?_
  refine Qn (t:=14) rfl (fun hb14=>?_) (fun hb14=>?_)
  ·
   refine QJ rfl rfl ?_
   obtain ⟨k1,k2⟩:=YS (by simpa using hb14)
   refine QA (QI rfl Eb Jy)<|QJ rfl rfl<|QA (Qo rfl Jy .here (.here .nil))<|QJ rfl rfl<|QA (QI rfl Ea Jy)<|QJ rfl rfl<|QA (Qo rfl Jy .here (.skip (.here .nil)))<|QJ rfl rfl<|QH rfl (fun w F hF h9=>dY hF (k1) (k2)) (fun _=>QJ rfl rfl<|QA (QU rfl rfl rfl)<|QA (Qj rfl rfl rfl)<|QE<|QC ?_)
   refine QP rfl (fun hc=>?_) (fun hc=>?_)
   ·
    refine J_sr<|JS_as rfl<|JS_nt<|QS ?_
    exact F_r1 rfl rfl (congrArg (Value.int .i64) (by unfold XD;rw [if_pos (by simpa using hb14),if_pos (dec_t hc)])) (fun F h9=>trivial)
   ·
    refine QO<|QC<|J_sr<|JS_mv rfl<|JS_as rfl<|JS_nt<|QS ?_
    exact F_r1 rfl rfl (congrArg (Value.int .i64) (by unfold XD;rw [if_pos (by simpa using hb14),if_neg (dec_f hc)];symm;simpa using hb14)) (fun F h9=>trivial)
  ·
   refine QN rfl rfl rfl<|QN rfl rfl rfl<|QN rfl rfl rfl<|QN rfl rfl rfl<|QN rfl rfl rfl<|QN rfl rfl rfl<|QA (Qh rfl rfl rfl)<|JS_nt<|YF rfl<|QO<|QC<|J_sr<|JS_mv rfl<|JS_as rfl<|JS_nt<|QS ?_
   exact F_r1 rfl rfl (congrArg (Value.int .i64) (by unfold XD;rw [if_neg (by simpa using hb14)])) (fun F h9=>trivial)
theorem jy {w:World} {F:Gs} {q:Option Addr} {n c:Nat} {l:List (List UInt8)} (hF:Fits F w) (hR:Q4 F q n 1 (l.map tx)) (hl:l.length=n∧∀ s∈l,s.length≤1000000) (hn:n≤1000000):Qc Tryz.prog 206 [.slice q n c] w F (.int .i64 (Qm (l.map Wi))):=by
 have hln:=hl.1
 refine QT.intro (G:=fun F=>Q4 F q n 1 (l.map tx)) Tryz.func206 rfl (by rfl) rfl rfl hF (fun F' hF'=>hR.le hF')<|J_sr<|JS_as rfl<|JS_nt<|QG<|J_sr<|JS_as rfl<|JS_nt<|QX<|ZT (ι:=Y3 l Wi) [(0,_)] (fun i=>[(3,.int .i64 ((i.i:Nat):Int))]) (fun i=>l.length - i.i) (Y3.start _ _) ⟨rfl,trivial⟩ ⟨rfl,trivial⟩ (fun i=>?_)
 simp only [List.cons_append,List.nil_append]
 refine QG<|J_sr<|JS_mv rfl<|JS_mv rfl<|QA (Qi rfl Hz)<|QA (QU rfl rfl rfl)<|QE<|QC ?_
 refine QP rfl (fun hc=>?_) (fun hc=>?_)
 ·
  have hi:i.i<l.length:=by have:=dec_t hc;omega
  have hel:=hl.2 _ (JN hi)
  refine QO<|QC<|QG<|QX<|J_sr<|JS_mv rfl<|JS_mv rfl<|QA (JK (n:=n) (i.i) (fun F hR=>hR) rfl rfl Hz Jy (by omega))<|QA (JM (n:=n) ((i.i)*1) (fun F hR=>hR) (by omega) rfl Jy (DR (f:=tx) (l:=l) (by omega)))<|QH rfl (fun w F hF hR=>jx hF (by omega)) (fun _=>QA (QU rfl rfl rfl)<|QE<|QC ?_)
  refine QP rfl (fun hc=>?_) (fun hc=>?_)
  ·
   refine J_sr<|JS_as rfl<|JS_nt<|QS ?_
   repeat (first | refine JE ?_ | refine Q3 ?_)
   exact F_r1 rfl rfl (congrArg (Value.int .i64) (by have h:=i.hit hi (by simpa using hc);rw [h];have h2:Wi (el l i.i)≠0:=(by simpa using hc);unfold Wi at h2 ⊢;split at h2<;>simp_all)) (fun F h9=>trivial)
  ·
   refine QO<|Qk<|QC<|QB<|JS_mv rfl<|QA (Qp rfl rfl (by omega))<|JS_as rfl<|QE ?_
   exact Ql (i.next hi (by simpa using hc)) (by show l.length - (i.i+1)<l.length - i.i;omega) ⟨rfl,rfl,trivial⟩ subl_r (fun F h=>h.1)
 ·
  have hi:l.length≤i.i:=by have:=dec_f hc;omega
  refine Qy ?_
  repeat (first | refine QZ ?_ | refine QV (by rfl) ?_)
  refine Qa<|QC<|J_sr<|JS_as rfl<|JS_nt<|QS ?_
  exact F_r1 rfl rfl (congrArg (Value.int .i64) (i.stop hi)) (fun F hR=>trivial)
theorem Ce (a:List UInt8):(numOf a).length≤a.length:=by unfold numOf;rw [List.length_take];omega
theorem uL {w:World} {F:Gs} {a:List UInt8} {d:Int} (hF:Fits F w) (hl:a.length≤1000000) (hd:0≤d∧d≤1000000):Qc Tryz.prog 126 [tx a,.int .i64 d] w F (.bool (P2 a d)):=by
 have hn:=Ce a
 refine QT.intro (G:=fun F=>True) Tryz.func126 rfl (by rfl) rfl rfl hF (fun F' hF'=>trivial)<|J_sr<|JS_as rfl<|JS_nt<|J_sr<|JS_mv rfl<|QA (XA rfl En)<|JS_mv rfl<|QA (Wo rfl rfl (by omega))<|QA (Qp rfl rfl (by omega))<|QA (QU rfl rfl rfl)<|JS_mv rfl ?_
 refine Qn (t:=11) rfl (fun hb11=>?_) (fun hb11=>?_)
 ·
  refine QJ rfl rfl<|JS_mv rfl<|QJ rfl rfl<|QH rfl (fun w F hF hT=>S7 hF (hl)) (fun _=>QJ rfl rfl<|QA (QU rfl rfl rfl)<|QA (Qj rfl rfl rfl)<|JS_mv rfl ?_)
  refine Qn (t:=16) rfl (fun hb16=>?_) (fun hb16=>?_)
  ·
   refine QJ rfl rfl<|JS_mv rfl<|QJ rfl rfl<|QH rfl (fun w F hF h9=>x6 hF (by omega)) (fun _=>QJ rfl rfl<|QH rfl (fun w F hF h9=>zC hF ) (fun _=>QJ rfl rfl<|QA (XA rfl En)<|QJ rfl rfl<|JS_mv rfl<|QJ rfl rfl<|QA (QU rfl rfl rfl)<|QA (Qj rfl rfl rfl)<|JS_mv rfl ?_))
   refine Qn (t:=24) rfl (fun hb24=>?_) (fun hb24=>?_)
   ·
    refine QJ rfl rfl<|JS_mv rfl<|QJ rfl rfl<|QH rfl (fun w F hF h9=>zA hF (by omega)) (fun _=>QJ rfl rfl<|QA (XA rfl En)<|QJ rfl rfl<|JS_mv rfl<|QJ rfl rfl<|QA (QU rfl rfl rfl)<|QA (Qj rfl rfl rfl)<|JS_as rfl<|JS_nt<|QS ?_)
    exact F_r1 rfl rfl ((congrArg Value.bool (by have h1:=dec_t hb11;simp [P2,h1];simp at hb16 hb24;simp [hb16,hb24]))) (fun F h9=>trivial)
   ·
    refine QN rfl rfl rfl<|QN rfl rfl rfl<|QN rfl rfl rfl<|QN rfl rfl rfl<|QN rfl rfl rfl<|QA (Qh rfl rfl rfl)<|JS_as rfl<|JS_nt<|QS ?_
    exact F_r1 rfl rfl ((congrArg Value.bool (by have h1:=dec_t hb11;simp [P2,h1];simp at hb16 hb24;simp [hb16];intro g;omega))) (fun F h9=>trivial)
  ·
   refine QN rfl rfl rfl<|QN rfl rfl rfl<|QN rfl rfl rfl<|QN rfl rfl rfl<|QN rfl rfl rfl<|QN rfl rfl rfl<|QA (Qh rfl rfl rfl)<|JS_mv rfl<|QN rfl rfl rfl<|QN rfl rfl rfl<|QN rfl rfl rfl<|QN rfl rfl rfl<|QN rfl rfl rfl<|QA (Qh rfl rfl rfl)<|JS_as rfl<|JS_nt<|QS ?_
   exact F_r1 rfl rfl ((congrArg Value.bool (by have h1:=dec_t hb11;simp at hb16;simp [P2,h1,hb16]))) (fun F h9=>trivial)
 ·
  refine QN rfl rfl rfl<|QN rfl rfl rfl<|QN rfl rfl rfl<|QA (Qh rfl rfl rfl)<|JS_mv rfl<|QN rfl rfl rfl<|QN rfl rfl rfl<|QN rfl rfl rfl<|QN rfl rfl rfl<|QN rfl rfl rfl<|QN rfl rfl rfl<|QA (Qh rfl rfl rfl)<|JS_mv rfl<|QN rfl rfl rfl<|QN rfl rfl rfl<|QN rfl rfl rfl<|QN rfl rfl rfl<|QN rfl rfl rfl<|QA (Qh rfl rfl rfl)<|JS_as rfl<|JS_nt<|QS ?_
  exact F_r1 rfl rfl ((congrArg Value.bool (by simp [P2,hb11]))) (fun F hT=>trivial)
end
section
open Go.RowKit Ig
theorem C6 {w:World} {F:Gs} {lo hi:List UInt8} (hF:Fits F w) (hl:lo.length≤1000000∧hi.length≤1000000):Qc Tryz.prog 125 [.agg #[tx lo,tx hi]] w F (.int .i64 (Qm [Wi lo,Wi hi])):=by
 refine QT.intro (G:=fun F=>True) Tryz.func125 rfl (by rfl) rfl rfl hF (fun F' hF'=>trivial)<|J_sr<|Q5 rfl (vs:=[_,_]) rfl (fun b1=>JS_as rfl<|JS_nt<|J_sr<|QA (QI rfl Eb Jy)<|QA (Qo rfl Jy .here (.here .nil))<|QA (QI rfl Ea Jy)<|QA (Qo rfl Jy .here (.skip (.here .nil)))<|QW rfl (Q7 Hz) Jy ki rfl rfl (fun b7=>QH rfl (fun w F hF ⟨hT,hs7⟩=>jy hF (n:=2) (l:=[lo,hi]) (Q4.of (n:=2) (sz:=1) hs7 rfl) (⟨rfl,fun s hs=>by simp at hs;rcases hs with rfl | rfl;exact hl.1;exact hl.2⟩) (by omega)) (fun _=>JS_as rfl<|JS_nt<|QS ?_)))
 exact F_r1 rfl rfl (rfl) (fun F h9=>trivial)
end
end Go.Proofs.YtknegjaeoffnbaaGreatDoor
namespace Ig
theorem eqv_norm (l:List Tm):Yz (JQ l) l:=fun k=>Kc l k
theorem W9 {l m:List Tm} (h:Yz l m):JQ l=JQ m:=MZ (Zw l) (Zw m) fun k=>by rw [Kc,Kc,h]
theorem eqv_zero (t:List Int) (p:List Tm):Yz ((0,t)::p) p:=fun k=>by simp [Jf,Rat.zero_add]
theorem eqv_join (x y:Rat) (k:List Int) (p:List Tm):Yz ((x,k)::(y,k)::p) ((x+y,k)::p):=fun j=>by
 simp only [Jf]
 by_cases h:k=j
 ·simp only [h,if_true];rw [Rat.add_assoc]
 ·simp only [h,if_false,Rat.zero_add]
theorem kX (a b:List Int):J0 a b=J0 b a:=by
 unfold J0;rw [List.zipWith_comm];congr 1;funext x y;exact Int.add_comm _ _
theorem CC:∀ a b c:List Int,J0 (J0 a b) c=J0 a (J0 b c)
 |[],_,_=>by simp [J0]
 |_::_,[],_=>by simp [J0]
 |_::_,_::_,[]=>by simp [J0]
 |x::a,y::b,z::c=>by
  have:=CC a b c
  simp only [J0,List.zipWith_cons_cons] at this ⊢
  rw [this,Int.add_assoc]
theorem Yz.pk {n:Nat} {p q q':List Tm} (hp:Zc n p) (hq:Zc n q) (hq':Zc n q') (h:Yz q q'):Yz (Q8 p q) (Q8 p q'):=by
 induction p with
 |nil=>exact Yz.refl _
 |cons s p ih =>
  rw [Xb,Xb]
  refine Yz.append (fun k=>?_) (ih hp.tail)
  rw [EI (hp s (by simp)) hq,EI (hp s (by simp)) hq',h]
theorem M1 (p q:List Tm):(Q8 p q).Perm (Q8 q p):=by
 induction p with
 |nil =>
  have:Q8 q []=[]:=by simp [Q8,Jn]
  rw [this];exact List.Perm.refl _
 |cons s p ih =>
  rw [Xb]
  refine(List.Perm.append_left _ ih).trans ?_
  clear ih
  induction q with
  |nil=>exact List.Perm.refl _
  |cons t q ih =>
   rw [Xb,Xb]
   show((s.1*t.1,J0 s.2 t.2)::(Jn s q++(Jn t p++Q8 q p))).Perm ((t.1*s.1,J0 t.2 s.2)::(Jn t p++Q8 q (s::p)))
   rw [Rat.mul_comm t.1,kX t.2]
   refine List.Perm.cons _ ?_
   refine List.Perm.trans ?_ (List.Perm.append_left _ ih)
   rw [← List.append_assoc,← List.append_assoc]
   exact List.Perm.append_right _ List.perm_append_comm
theorem Yz.prod {n:Nat} {p p' q q':List Tm} (hp:Zc n p) (hp':Zc n p') (hq:Zc n q) (hq':Zc n q') (h:Yz p p') (k:Yz q q'):Yz (Q8 p q) (Q8 p' q') :=
 (Yz.pk hp hq hq' k).trans ((Yz.perm (M1 p q')).trans ((Yz.pk hq' hp hp' h).trans (Yz.perm (M1 q' p'))))
theorem CN (s t:Tm) (q:List Tm):Jn s (Jn t q)=Jn (s.1*t.1,J0 s.2 t.2) q:=by
 simp only [Jn,List.map_map]
 congr 1;funext u
 simp [Rat.mul_assoc,CC]
theorem Cv (s:Tm) (p q:List Tm):Jn s (Q8 p q)=Q8 (Jn s p) q:=by
 induction p with
 |nil=>rfl
 |cons t p ih =>
  rw [Xb,Vm,ih,CN]
  show _=Q8 ((s.1*t.1,J0 s.2 t.2)::Jn s p) q
  rw [Xb]
theorem I4 (p q r:List Tm):Q8 (Q8 p q) r=Q8 p (Q8 q r):=by
 induction p with
 |nil=>rfl
 |cons s p ih=>rw [Xb,WG,ih,Xb,Cv]
end Ig
namespace Go.Proofs.YtknegjaeoffnbaaGreatDoor
section
open Go.RowKit Go.ChangeShapes Go.WideShapes Ig
section
variable {H:Type} {enc:TypeId×Value→H} {w:World}
theorem kK (n:Nat) (cs:List Value) (x:DataW H×List MemPlace) (h:DataW.trod enc Tryz.prog w 0 (fun _=>true) true n 3 cs=some x):∃ y:Int,cs=[Qx y]∧True:=by
 obtain ⟨z,rfl,_⟩:=DataW.trod_int pZ h
 exact⟨z,rfl,trivial⟩
theorem kO (l:List Int):(l.flatMap fun y=>[Qx y])=l.map Qx:=by
 induction l with
 |nil=>rfl
 |cons a l ih=>rw [List.flatMap_cons,ih];rfl
end
end
section
open Go.RowKit Go.ChangeShapes Go.WideShapes Ig
def pX (t:Vr):Prop:=t.f.length≤9223372036854775807∧t.k.length≤9223372036854775807
section
variable {H:Type} {enc:TypeId×Value→H} {w:World}
theorem dR {n:Nat} {t:TypeId} {v:Value} {x:DataW H×List MemPlace} (ht:Tryz.prog.underlying t=some .string) (h:DataW.trod enc Tryz.prog w 0 (fun _=>true) true n t [v]=some x):∃ l,v=tx l∧l.length≤9223372036854775807:=by
 obtain ⟨s,e,_,hs⟩:=DataW.trod_string ht h
 obtain ⟨rfl⟩:=List.cons.inj e
 exact⟨s.data.toList,by simp [tx],by unfold maxLen at hs;simpa using hs⟩
set_option maxRecDepth 100000 in
theorem jq (n:Nat) (cs:List Value) (x:DataW H×List MemPlace) (h:DataW.trod enc Tryz.prog w 0 (fun _=>true) true n 122 cs=some x):∃ y:Vr,cs=KU y∧JL (Wb w) y.r y.k∧pX y:=by
 obtain ⟨y0,y1,m,_,hl,h0,h1⟩:=trod_struct2 Tryz.underlying122 h
 have c2:Tryz.prog.cellsOf 122=2:=by kernel_rfl
 have c1:Tryz.prog.cellsOf 22=1:=by kernel_rfl
 have c3:Tryz.prog.cellsOf 120=1:=by kernel_rfl
 rw [c2] at hl
 match cs,hl with
 |[a,b],_ =>
  dsimp only at h0 h1
  rw [c1] at h0
  rw [c3] at h1
  obtain ⟨f,rfl,hf⟩:=dR LW (v:=a) h0
  obtain ⟨q,n,cap,l,e,hR,hn,hb,_,hc⟩:=CZ (cs:=[b]) (f:=fun y=>[Qx y]) (Q:=fun _=>True) Tryz.underlying120 (show Tryz.prog.cellsOf 3=1 by kernel_rfl) (by decide) (fun _=>rfl) kK h1
  obtain ⟨rfl⟩:=(List.cons.injEq _ _ _ _ ▸ e:_∧_).1
  rw [kO] at hR
  exact⟨⟨f,⟨q,n,cap⟩,l⟩,rfl,⟨hR,hn,hc⟩,hf,by rw [hn];exact hb⟩
set_option maxRecDepth 100000 in
theorem U4 {m:Nat} {v:Value} {x:DataW H×List MemPlace} (h:DataW.trod enc Tryz.prog w 0 (fun _=>true) true m 52 [v]=some x) :
  ∃ a:Yw,v=a.1.v∧ZR (Wb w) a.1 a.2 (Jp a.2)∧(∀ t∈a.2,pX t)∧a.1.n≤9223372036854775807:=by
 obtain ⟨q,n,cap,l,h1,h2,h3,h4,h5,h6⟩:=CZ (cs:=[v]) (f:=KU) (Q:=fun y=>JL (Wb w) y.r y.k∧pX y) Tryz.underlying52 (show Tryz.prog.cellsOf 122=2 by kernel_rfl) (by decide) (fun _=>rfl) jq h
 exact⟨(⟨q,n,cap⟩,l),(List.cons.injEq _ _ _ _ ▸ h1:_∧_).1,⟨h2,fun t ht=>(h5 t ht).1,rfl,h6,h3⟩,fun t ht=>(h5 t ht).2,h4⟩
theorem I5 {t e:TypeId} {n b:Nat} {v:Value} (ht:Tryz.prog.underlying t=some (.array n e)) (h:Value.okWide Tryz.prog w .any b t v):∃ cs,v = .agg cs∧cs.size=Tryz.prog.cellsOf t:=by
 simp only [Value.okWide,ht] at h
 obtain ⟨cs,h1,h2,_⟩:=h
 exact⟨cs,h1,h2⟩
theorem cX {cs:Array Value} (h:cs.size=3):∃ a b c,cs=#[a,b,c]:=by
 obtain ⟨l⟩:=cs
 match l,h with
 |[a,b,c],_=>exact⟨a,b,c,rfl⟩
set_option maxRecDepth 100000 in
theorem dm {b:Nat} {v:Value} {d:DataW H} {p:List MemPlace} (hv:Value.okWide Tryz.prog w .any b 53 v) (h:DataW.Trod enc Tryz.prog w 0 (fun _=>true) true 53 v d p) :
  ∃ x y z:Yw,v = .agg #[x.1.v,y.1.v,z.1.v]∧∀ a∈[x,y,z],ZR (Wb w) a.1 a.2 (Jp a.2)∧(∀ t∈a.2,pX t)∧a.1.n≤9223372036854775807:=by
 obtain ⟨cs,rfl,hsz⟩:=I5 Tryz.underlying53 hv
 obtain ⟨a,b',c,rfl⟩:=cX (hsz.trans (by kernel_rfl))
 obtain ⟨fuel,hf⟩:=h
 obtain ⟨y0,y1,y2,n,_,h0,h1,h2⟩:=trod_array3 Tryz.underlying53 (show Tryz.prog.cellsOf 52=1 by kernel_rfl) hf
 obtain ⟨x,rfl,hx⟩:=U4 h0
 obtain ⟨y,rfl,hy⟩:=U4 h1
 obtain ⟨z,rfl,hz⟩:=U4 h2
 refine⟨x,y,z,rfl,fun a ha=>?_⟩
 simp only [List.mem_cons,List.not_mem_nil,or_false] at ha
 rcases ha with rfl | rfl | rfl
 ·exact hx
 ·exact hy
 ·exact hz
set_option maxRecDepth 100000 in
theorem dj {b:Nat} {v:Value} {d:DataW H} {p:List MemPlace} (hv:Value.okWide Tryz.prog w .any b 109 v) (h:DataW.Trod enc Tryz.prog w 0 (fun _=>true) true 109 v d p):∃ x y z,v = .agg #[tx x,tx y,tx z]:=by
 obtain ⟨cs,rfl,hsz⟩:=I5 Tryz.underlying109 hv
 obtain ⟨a,b',c,rfl⟩:=cX (hsz.trans (by kernel_rfl))
 obtain ⟨fuel,hf⟩:=h
 obtain ⟨y0,y1,y2,n,_,h0,h1,h2⟩:=trod_array3 Tryz.underlying109 (show Tryz.prog.cellsOf 22=1 by kernel_rfl) hf
 obtain ⟨x,rfl⟩:=Fi LW h0
 obtain ⟨y,rfl⟩:=Fi LW h1
 obtain ⟨z,rfl⟩:=Fi LW h2
 exact⟨x,y,z,rfl⟩
end
end
section
open Go.RowKit Ig
theorem kY {w:World} {F:Gs} {a b:Yw} {v:Int} (hF:Fits F w) (hGl:JC F) (hA:Z9 F [a,b]) (ht:∀ e∈[a,b],VB e) :
  QT Tryz.prog 42 [a.1.v,b.1.v,.int .i64 v] w F (fun(c:Yw)=>.tuple #[c.1.v,.int .i64 (yw [a,b] v (JQ (JA (Jp a.2)++JA (Jp b.2))))]) (fun c F=>ZR F c.1 c.2 (yv [a,b] v (JQ (JA (Jp a.2)++JA (Jp b.2))))):=by
 have ha:a∈[a,b]:=by simp
 have hb:b∈[a,b]:=by simp
 dsimp only [Sr.v]
 refine QT.intro (G:=fun F=>JC F∧Z9 F [a,b]) Tryz.func42 rfl (by rfl) rfl rfl hF (fun F' hF'=>⟨hGl.le hF',hA.le hF'⟩)<|J_sr<|JS_as rfl<|JS_as rfl<|JS_nt<|QG<|J_sr<|JS_mv rfl<|JS_mv rfl<|JS_mv rfl<|QW rfl (Q7 DA) Gn jh rfl rfl (fun b12=>QH rfl (fun w F hF h9=>GI hF h9.1.1 (Q4.of (n:=2) (sz:=1) (cs:=[a,b].map fun e=>e.1.v) h9.2 rfl) (h9.1.2) (rfl) (by decide) (ht)) (fun _=>JS_as rfl<|JS_nt<|J_sr<|JS_mv rfl<|QA (QU rfl rfl rfl)<|QE<|QC ?_))
 refine QP rfl (fun hc=>?_) (fun hc=>?_)
 ·
  have hc0:=bne_iff_ne.1 hc
  refine J_sr<|JS_mv rfl<|JS_as rfl<|JS_as rfl<|JS_nt<|QS ?_
  exact JX ((⟨none,0,0⟩,[])) rfl (.tmp rfl (.tmp rfl .nil)) (by unfold yw;rw [if_neg hc0]) (fun F h9=>by unfold yv;rw [if_neg hc0];exact ZR.nil F)
 ·
  have hc0:=bne_eq_false_iff_eq.1 hc
  obtain ⟨hv,hok⟩:=Du hc0
  have oa:=hok a ha
  have ob:=hok b hb
  have sa:=oa.ZV
  have sb:=ob.ZV
  have hpa:∀ t∈JA (Jp a.2),PW t.2:=oa.pw hv.2
  have hpb:∀ t∈JA (Jp b.2),PW t.2:=ob.pw hv.2
  have la:(JA (Jp a.2)).length≤64:=by unfold JA;rw [List.length_map];exact oa.len
  have lb:(JA (Jp b.2)).length≤64:=by unfold JA;rw [List.length_map];exact ob.len
  have hsz:ZV (JA (Jp a.2)++JA (Jp b.2))≤400000:=by rw [XV];omega
  have hpn:=D4 (l:=JA (Jp a.2)++JA (Jp b.2)) fun t ht=>by
   rcases List.mem_append.1 ht with h | h
   ·exact hpa t h
   ·exact hpb t h
  have hln:=Va (JA (Jp a.2)++JA (Jp b.2))
  rw [List.length_append] at hln
  refine QO<|QC<|J_sr<|JS_mv rfl<|QH rfl (fun w F hF h9=>KV hF h9.1.1.1 (a:=a) (h9.1.1.2 a ha).1 (h9.1.1.2 a ha).2 (ht a ha) oa hv) (fun c18=>JH _ (fun w F hF h=>And.intro h.2.2.2.1 h.2.len) (fun h18p=>JS_mv rfl<|QH rfl (fun w F hF h9=>KV hF h9.1.1.1.1 (a:=b) (h9.1.1.1.2 b hb).1 (h9.1.1.1.2 b hb).2 (ht b hb) ob hv) (fun c20=>JH _ (fun w F hF h=>And.intro h.2.2.2.1 h.2.len) (fun h20p=>?_))))
  obtain ⟨e18,l18⟩:=h18p
  obtain ⟨e20,l20⟩:=h20p
  refine QH rfl (fun w F hF h9=>qJ hF h9.1.1.1.1.1 (p:=c18) (q:=c20) (by rw [e18];exact h9.1.2) (by rw [e20];exact h9.2) ⟨Jz e18 hpa,Jz e20 hpb⟩ (by omega) (by rw [e18,e20];omega)) (fun c21=>JH _ (fun w F hF h=>And.intro h.2.2.2.1 h.2.len) (fun h21p=>?_))
  obtain ⟨e21,l21⟩:=h21p
  rw [e18,e20] at e21 l21
  refine QH rfl (fun w F hF ⟨⟨⟨⟨⟨⟨hGl,hA⟩,hs12⟩,_⟩,h18⟩,h20⟩,h21⟩=>WY hF (q:=c21.1.q) (n:=c21.1.n) (cap:=c21.1.cap) (ts:=c21.2) (by rw [e21];rw [e18,e20] at h21;exact h21) hGl (Jz e21 hpn) (fun t htm=>Nat.le_trans (Hy (Jz e21 (fun x hx=>hx) t htm)) (by omega)) (by omega)) (fun c22=>?_)
  rw [e21]
  refine QA (QK rfl rfl)<|QA (QK rfl rfl)<|JS_as rfl<|JS_as rfl<|JS_nt<|QS ?_
  exact JX (c22) rfl (.tmp rfl (.tmp rfl .nil)) (by unfold yw;rw [if_pos hc0];rfl) (fun F h9=>by unfold yv;rw [if_pos hc0];exact h9.2)
end
section
open Go.RowKit Ig
theorem dc {a z v r:List Value} (h:z.length=v.length):Ko (a++(z++r)) a.length v (a++(v++r)):=by
 have:=Ko.mk' a.length (a++(z++r)) v (by simp only [List.length_append];omega)
 rw [List.take_left,List.drop_append,List.drop_of_length_le (by omega),List.nil_append,Nat.add_sub_cancel_left,List.drop_append,List.drop_of_length_le (by omega),List.nil_append,← h,Nat.sub_self,List.drop_zero,List.append_assoc] at this
 exact this
theorem xS (xs:List (Fr×Rat)):(FH xs).length=xs.length*4:=by
 unfold FH
 induction xs with
 |nil=>rfl
 |cons x xs ih=>rw [List.flatMap_cons,List.length_append,ih,List.length_cons,Nat.add_mul];simp [UR];omega
def cL:List Value:=[.int .i64 0,.slice none 0 0,.int .i64 0,.slice none 0 0]
theorem de {xs:List (Fr×Rat)} {i n:Nat} (h:xs.length=i) (hi:i<n) (x:Fr) (r:Rat):Ko (FH xs++X2 cL (n - i)) (0+i*4) (UR x) (FH (xs++[(x,r)])++X2 cL (n - (i+1))):=by
 have e1:n - i=(n - (i+1))+1:=by omega
 have e2:FH (xs++[(x,r)])=FH xs++UR x:=by unfold FH;rw [List.flatMap_append];simp
 rw [e1,X2,e2,List.append_assoc,show 0+i*4=(FH xs).length by rw [xS,h];omega]
 exact dc rfl
theorem kM {w:World} {F:Gs} {q:Option Addr} {n cap:Nat} {ss:List (List UInt8)} (hF:Fits F w) (hGl:JC F) (hR:Q4 F q n 1 (ss.map tx)) (hn:ss.length=n) (hl:n≤1000000) (hc:∀ s∈ss,Ja s=0∧s.length≤1000000) :
  QT Tryz.prog 187 [.slice q n cap] w F (fun(c:Sr×List (Fr×Rat))=>c.1.v) (fun c F=>Q4 F c.1.q c.1.n 4 (FH c.2)∧CK F c.2∧c.2.map (·.2)=ss.map Jk∧c.2.length=c.1.n∧c.1.n=n):=by
 refine QT.intro (G:=fun F=>JC F∧Q4 F q n 1 (ss.map tx)) Tryz.func187 rfl (by rfl) rfl rfl hF (fun F' hF'=>⟨hGl.le hF',hR.le hF'⟩)<|J_sr<|JS_as rfl<|JS_nt<|J_sr<|JS_mv rfl<|QA (Qi rfl Hz)<|Nz (n:=n) (bytes:=64) rfl rfl Wg Qe Xp rfl uf (by omega) (by omega) (fun bk=>B4 (E':=⟨w,F,[(bk,.cells (FH []++X2 cL (n - 0)).toArray 130 (0,0))],fun F=>JC F∧Q4 F q n 1 (ss.map tx)⟩) (fun _ h=>h)<|JS_as rfl<|JS_nt<|QG<|J_sr<|JS_mv rfl<|QA (Qi rfl Hz)<|JS_mv rfl<|JS_nt<|QX<|Jw (ι:=kb ss) [(3,_),(9,_),(10,_)] (fun i=>[(11,.int .i64 ((i.i:Nat):Int))]) (fun i=>[(bk,.cells (FH i.xs++X2 cL (n - i.i)).toArray 130 (0,0))]) (fun i F=>CK F i.xs) (fun i=>ss.length - i.i) (⟨0,[],Nat.zero_le _,rfl⟩) ⟨rfl,rfl,rfl,trivial⟩ ⟨rfl,trivial⟩ subl_r (fun _ _ _ h=>by cases h) (fun i=>?_))
 simp only [List.cons_append,List.nil_append]
 have hi:=i.le
 refine J_sr<|QA (QU rfl rfl rfl)<|JS_nt<|QG ?_
 refine QP rfl (fun hc2=>?_) (fun hc2=>?_)
 ·
  have hlt:i.i<ss.length:=by have:=dec_t hc2;omega
  have hcs:=hc _ (JN hlt)
  have hcl:=hcs.2
  refine QO<|QC<|QG<|QX<|J_sr<|JS_mv rfl<|QA (JK (n:=n) (i.i) (fun F h9=>h9.1.2) rfl rfl Hz Jy (by omega))<|QA (JM (n:=n) ((i.i)*1) (fun F h9=>h9.1.2) (by omega) rfl Jy (DR (f:=tx) (l:=ss) (by omega)))<|JS_as rfl<|JS_as rfl<|JS_nt<|QB<|JS_mv rfl<|JS_mv rfl<|JS_mv rfl<|QH rfl (fun w F hF h9=>Gv hF h9.1.1 ((ZO hcs.1).1) (by omega)) (fun x19=>QA (Qw (i:=i.i) rfl rfl Wg Qe (by omega))<|QQ (vs:=UR x19) rfl rfl rfl Qe rfl .here (de i.len (by omega) x19 (Jk (el ss i.i))) ⟨rfl,rfl,rfl,rfl,trivial⟩<|QE<|Qk<|QC<|QB<|QA (Qp rfl rfl (by omega)) ?_)
  refine JS_mv rfl<|QE ?_
  exact Ql (⟨i.i+1,i.xs++[(x19,Jk (el ss i.i))],hlt,by rw [X4 hlt,List.map_append,List.map_append,i.hx];rfl⟩) (by show ss.length - (i.i+1)<ss.length - i.i;omega) ⟨rfl,rfl,rfl,rfl,trivial⟩ subl_r (fun F ⟨⟨hB,hX⟩,SV⟩=>⟨hB,fun p hp=>by
   rcases List.mem_append.1 hp with hp | hp
   ·exact hX p hp
   ·rw [List.mem_singleton.1 hp];exact SV⟩)
 ·
  have hge:i.i=ss.length:=by have:=dec_f hc2;omega
  refine Qy ?_
  repeat (first | refine QZ ?_ | refine QV (by rfl) ?_)
  refine Qa<|QC<|QG<|QB ?_
  have hxl:=i.len
  have hz:X2 cL (n - i.i)=[]:=by rw [show n - i.i=0 from by omega];rfl
  rw [hz,List.append_nil]
  refine Wf (b:=bk) .here<|JS_mv rfl<|JS_as rfl<|JS_nt<|QS ?_
  exact QR ((⟨some ⟨bk,0,none⟩,n,n⟩,i.xs)) rfl (.tmp rfl .nil) (rfl) (fun F h9=>⟨Q4.of h9.2 ((xS _).trans (by rw [hxl,hge,hn])),h9.1.2,by rw [i.hx,hge,List.take_length],hxl.trans (hge.trans hn),rfl⟩)
end
section
open Go.RowKit Ig
theorem Hw (c:Rat) (xs:List Rat) (ks:List Int) (i:Nat):BC c xs ks (i+1)=BC c xs ks i*(el xs i)^(Qb ks i).toNat:=by
 unfold BC;rw [List.range_succ,List.foldl_append];rfl
def Zu (xs:List Rat) (l:List Tm):Rat:=l.foldl (fun a t=>a+BC t.1 xs t.2 t.2.length) 0
theorem z7 {ts:List XT} {xs:List Rat} {i:Nat} (h:i<ts.length):Zu xs (JG (ts.take (i+1)))=Zu xs (JG (ts.take i))+BC (el ts i).t.1 xs (el ts i).t.2 (el ts i).t.2.length:=by
 rw [Xi h];unfold Zu;rw [List.foldl_append];rfl
theorem y6 {xs:List (Fr×Rat)} {j:Nat} (h:j<xs.length):el (xs.map (·.2)) j=(el xs j).2:=by rw [ZA (by simpa using h),ZA h];simp
theorem di {w:World} {F:Gs} {q q2:Option Addr} {n cap n2 cap2:Nat} {ts:List XT} {xs:List (Fr×Rat)} (hF:Fits F w) (hP:Jm F ⟨q,n,cap⟩ ts (JG ts)) (hX:Q4 F q2 n2 4 (xs.flatMap fun p=>UR p.1)) (hXs:CK F xs) (hx:xs.length=n2) (hw:∀ t∈ts,t.t.2.length=n2∧PW t.t.2) (hl:ts.length≤1000000)
  (hb1:∀ t∈ts,∀ i,i≤n2→JO (BC t.t.1 (xs.map (·.2)) t.t.2 i)≤50000000) (hb2:∀ t∈ts,∀ i,i<n2→(Qb t.t.2 i).toNat*JO (el xs i).2≤40000000) (hb3:∀ i,i≤ts.length→JO (Zu (xs.map (·.2)) (JG (ts.take i)))≤50000000) :
  ZE Tryz.prog 186 [.slice q n cap,.slice q2 n2 cap2] w F (Zu (xs.map (·.2)) (JG ts)):=by
 have hln:ts.length=n:=hP.2.2.2.2
 refine QT.intro (G:=fun F=>Jm F ⟨q,n,cap⟩ ts (JG ts)∧Q4 F q2 n2 4 (xs.flatMap fun p=>UR p.1)∧CK F xs) Tryz.func186 rfl (by rfl) rfl rfl hF (fun F' hF'=>⟨hP.le hF',hX.le hF',hXs.le hF'⟩)<|J_sr<|Qf Xp (fun b4=>JS_nt<|J_sr<|QH rfl (fun w F hF h9=>dK hF (by omega) (by omega)) (fun x11=>Qf Xp (fun b5=>QQ (vs:=[_,_,_,_]) rfl rfl rfl Qe rfl .here (.here (.here (.here (.here .nil)))) ⟨rfl,rfl,rfl,rfl,trivial⟩<|JS_nt<|QG<|J_sr<|JS_mv rfl<|QA (Qi rfl J1)<|JS_mv rfl<|JS_nt<|QX<|Jw (ι:=EvO ts.length) [(1,_),(4,_),(5,_),(12,_),(13,_)] (fun i=>[(14,.int .i64 ((i.i:Nat):Int))]) (fun i=>[(b5,.cells (UR i.x).toArray 130 (0,0)),(b4,.cells [.int .i64 0,.slice none 0 0,.int .i64 0,.slice none 0 0].toArray 130 (0,0))]) (fun i F=>JV F i.x (Zu (xs.map (·.2)) (JG (ts.take i.i)))) (fun i=>ts.length - i.i) (⟨0,x11,Nat.zero_le _⟩) ⟨rfl,rfl,rfl,rfl,rfl,trivial⟩ ⟨rfl,trivial⟩ subl_r (fun _ h=>h.2) (fun i=>?_))))
 simp only [List.cons_append,List.nil_append]
 have hi:=i.le
 have hs3:=hb3 i.i hi
 refine J_sr<|QA (QU rfl rfl rfl)<|JS_nt<|QG ?_
 refine QP rfl (fun hc=>?_) (fun hc=>?_)
 ·
  have hlt:i.i<ts.length:=by have:=dec_t hc;omega
  have htm:=JN hlt
  have hw1:=(hw _ htm).1
  have hpw:=(hw _ htm).2
  have hl1000:=hpw.2
  have hrl:=(hP.2.1 _ htm).2.2.1
  refine QO<|QC<|QG<|QX<|J_sr<|QA (JK (n:=n) (i.i) (fun F h9=>(h9.1.1.1).1) rfl rfl J1 JZ (by omega))<|QA (Xq (n:=n) (vs:=[.int .i64 (el ts (i.i)).x.n.s,.slice (el ts (i.i)).x.n.q (el ts (i.i)).x.n.n (el ts (i.i)).x.n.cap,.int .i64 (el ts (i.i)).x.d.s,.slice (el ts (i.i)).x.d.q (el ts (i.i)).x.d.n (el ts (i.i)).x.d.cap,.slice (el ts (i.i)).r.q (el ts (i.i)).r.n (el ts (i.i)).r.cap]) ((i.i)*5) (fun F h9=>(h9.1.1.1).1) (by omega) rfl JZ rfl (fun j v hv=>J2 (f:=YY) (l:=ts) YE (by omega) hv))<|Qf Zb (fun b7=>QQ (vs:=[_,_,_,_,_]) rfl rfl rfl JZ rfl .here (.here (.here (.here (.here (.here .nil))))) ⟨rfl,rfl,rfl,rfl,rfl,trivial⟩<|JS_nt<|J_sr<|QA (QI rfl Zm Qe)<|QA (QL (vs:=[_,_,_,_]) rfl Qe .here (.here (.here (.here (.here .nil)))) rfl)<|Qf Xp (fun b8=>QQ (vs:=[_,_,_,_]) rfl rfl rfl Qe rfl .here (.here (.here (.here (.here .nil)))) ⟨rfl,rfl,rfl,rfl,trivial⟩<|JS_nt<|QG<|J_sr<|QA (QI rfl X1 Qv)<|QA (Qo rfl Qv (.there .here) (.skip (.skip (.skip (.skip (.here .nil)))))) ?_))
  refine QA (Qi rfl Qd)<|JS_mv rfl<|JS_nt<|QX<|Jw (ι:=EvI (el ts i.i).t.2.length) [(1,_),(4,_),(5,_),(8,_),(12,_),(13,_),(14,_),(21,_),(22,_)] (fun i2=>[(23,.int .i64 ((i2.j:Nat):Int))]) (fun i2=>[(b8,.cells (UR i2.y).toArray 130 (0,0)),(b7,.cells (YY (el ts i.i)).toArray 165 (0,0)),(b5,.cells (UR i.x).toArray 130 (0,0)),(b4,.cells [.int .i64 0,.slice none 0 0,.int .i64 0,.slice none 0 0].toArray 130 (0,0))]) (fun i2 F=>JV F i2.y (BC (el ts i.i).t.1 (xs.map (·.2)) (el ts i.i).t.2 i2.j)) (fun i2=>(el ts i.i).t.2.length - i2.j) (⟨0,(el ts i.i).x,Nat.zero_le _⟩) ⟨rfl,rfl,rfl,rfl,rfl,rfl,rfl,rfl,rfl,trivial⟩ ⟨rfl,trivial⟩ subl_r (fun _ h=>(h.1.1.1.2.1 _ htm).1) (fun i2=>?_)
  simp only [List.cons_append,List.nil_append]
  have hj:=i2.le
  have hs1:=hb1 _ htm i2.j (by omega)
  refine J_sr<|QA (QU rfl rfl rfl)<|JS_nt<|QG ?_
  refine QP rfl (fun hc=>?_) (fun hc=>?_)
  ·
   have hlt2:i2.j<(el ts i.i).t.2.length:=by have:=dec_t hc;omega
   have hlx:i2.j<xs.length:=by omega
   have hxm:=JN hlx
   have hk:=hpw.el hlt2
   have hs2:=hb2 _ htm i2.j (by omega)
   refine QO<|QC<|QG<|QX<|J_sr<|JS_mv rfl<|QA (JK (n:=(el ts i.i).r.n) (i2.j) (fun F h9=>((h9.1.1.1.1.2.1 _ htm).2).1) rfl rfl Qd Qs (by omega))<|QA (JM (n:=(el ts i.i).r.n) ((i2.j)*1) (fun F h9=>((h9.1.1.1.1.2.1 _ htm).2).1) (by omega) rfl Qs (JJ (o:=(el ts i.i).t.2) (by omega)))<|JS_as rfl<|JS_as rfl<|JS_nt<|Xo 8 subl_r mixed (by kernel_rfl) (by kernel_rfl) ?_
   simp only [List.take_succ_cons,List.take_zero,List.drop_succ_cons,List.drop_zero]
   refine QM (QL (vs:=[_,_,_,_]) rfl Qe .here (.here (.here (.here (.here .nil)))) rfl)<|QM (QD rfl)<|QM (QD rfl)<|QM (JK (n:=n2) (i2.j) (fun F h9=>h9.1.1.1.2.1) rfl rfl Wg Qe (by omega))<|QM (Xq (n:=n2) (vs:=[.int .i64 (el xs (i2.j)).1.n.s,.slice (el xs (i2.j)).1.n.q (el xs (i2.j)).1.n.n (el xs (i2.j)).1.n.cap,.int .i64 (el xs (i2.j)).1.d.s,.slice (el xs (i2.j)).1.d.q (el xs (i2.j)).1.d.n (el xs (i2.j)).1.d.cap]) ((i2.j)*4) (fun F h9=>h9.1.1.1.2.1) (by omega) rfl Qe rfl (fun j v hv=>J2 (f:=(fun p=>UR p.1)) (l:=xs) (fun _=>rfl) (by omega) hv))<|QM (QD rfl)<|Qg rfl (fun w F hF h9=>EY hF (h9.1.1.1.2.2 _ hxm) (by omega) (by omega) (by omega)) (fun x34=>Qg rfl (fun w F hF ⟨⟨⟨⟨⟨hP,hX,hXs⟩,⟨h11,h11_⟩⟩,⟨hon,hod⟩⟩,⟨hyn,hyd⟩⟩,⟨h34,h34_⟩⟩=>KK hF ⟨by assumption,by assumption⟩ ⟨by assumption,by assumption⟩ (by omega) (by have:=Wm (el xs i2.j).2 (Qb (el ts i.i).t.2 i2.j).toNat;omega)) (fun x35=>K6<|QQ (vs:=[_,_,_,_]) rfl rfl rfl Qe rfl .here (.here (.here (.here (.here .nil)))) ⟨rfl,rfl,rfl,rfl,trivial⟩<|QE<|Qk<|QC<|QB<|QA (Qp rfl rfl (by omega))<|JS_mv rfl<|QE ?_))
   exact Ql (⟨i2.j+1,x35,hlt2⟩) (by show(el ts i.i).t.2.length - (i2.j+1)<(el ts i.i).t.2.length - i2.j;omega) ⟨rfl,rfl,rfl,rfl,rfl,rfl,rfl,rfl,rfl,rfl,trivial⟩ subl_r (fun F h9=>⟨h9.1.1.1,by show JV F x35 (BC _ (xs.map (·.2)) _ (i2.j+1));rw [Hw,y6 hlx];exact h9.2⟩)
  ·
   have hge2:i2.j=(el ts i.i).t.2.length:=by have:=dec_f hc;omega
   refine Qy ?_
   repeat (first | refine QZ ?_ | refine QV (by rfl) ?_)
   refine Qa<|QC<|QB<|QA (QL (vs:=[_,_,_,_]) rfl Qe (.there (.there .here)) (.here (.here (.here (.here .nil)))) rfl)<|QA (QL (vs:=[_,_,_,_]) rfl Qe .here (.here (.here (.here (.here .nil)))) rfl)<|QH rfl (fun w F hF ⟨⟨⟨⟨hP,hX,hXs⟩,⟨h11,h11_⟩⟩,⟨hon,hod⟩⟩,⟨hyn,hyd⟩⟩=>EZ hF ⟨by assumption,by assumption⟩ ⟨by assumption,by assumption⟩ (by omega) (by omega)) (fun x39=>QQ (vs:=[_,_,_,_]) rfl rfl rfl Qe rfl (.there (.there .here)) (.here (.here (.here (.here .nil)))) ⟨rfl,rfl,rfl,rfl,trivial⟩<|QE<|Qk<|QC<|QB<|QA (Qp rfl rfl (by omega))<|JS_mv rfl<|QE ?_)
   exact Ql (⟨i.i+1,x39,hlt⟩) (by show ts.length - (i.i+1)<ts.length - i.i;omega) ⟨rfl,rfl,rfl,rfl,rfl,rfl,trivial⟩ (.cons _ (.cons _ subl_r)) (fun F h9=>⟨h9.1.1.1,by show JV F x39 (Zu _ (JG (ts.take (i.i+1))));rw [z7 hlt,← hge2];exact h9.2⟩)
 ·
  have hge:i.i=ts.length:=by have:=dec_f hc;omega
  refine Qy ?_
  repeat (first | refine QZ ?_ | refine QV (by rfl) ?_)
  refine Qa<|QC<|J_sr<|QA (QL (vs:=[_,_,_,_]) rfl Qe .here (.here (.here (.here (.here .nil)))) rfl)<|QQ (vs:=[_,_,_,_]) rfl rfl rfl Qe rfl (.there .here) (.here (.here (.here (.here .nil)))) ⟨rfl,rfl,rfl,rfl,trivial⟩<|JS_nt<|QS ?_
  exact QR (i.x) rfl (.Jc (c:=[_,_,_,_]) rfl Qe (.there .here) .nil) (rfl) (fun F h9=>by have h:JV F i.x _:=⟨h9.2.1,h9.2.2⟩;rw [hge,List.take_length] at h;exact h)
end
section
open Go.RowKit Ig
theorem dL {c:Rat} {xs:List Rat} {ks:List Int} (hc:JO c≤2400) (hx:∀ x∈xs,JO x≤2400) (hk:∀ k∈ks,0≤k∧k≤12):∀ i,i≤xs.length→i≤ks.length→JO (BC c xs ks i)≤2400+i*28801:=by
 intro i
 induction i with
 |zero=>intro _ _;simpa [BC] using hc
 |succ i ih =>
  intro h1 h2
  have h3:=ih (by omega) (by omega)
  have h4:=XJ (BC c xs ks i) ((el xs i)^(Qb ks i).toNat)
  have h5:=Wm (el xs i) (Qb ks i).toNat
  have h6:=hx _ (JN (show i<xs.length by omega))
  have h7:0≤Qb ks i∧Qb ks i≤12:=by rw [Xx (show i<ks.length by omega)];exact hk _ (JN (by omega))
  have h8:(Qb ks i).toNat*JO (el xs i)≤12*2400:=Nat.mul_le_mul (by omega) h6
  rw [Hw];omega
theorem jC {xs:List Rat} {B:Nat}:∀ (l:List Tm) (a:Rat),(∀ t∈l,JO (BC t.1 xs t.2 t.2.length)≤B)→JO (l.foldl (fun a t=>a+BC t.1 xs t.2 t.2.length) a)≤JO a+l.length*(B+1)
 |[],a,_=>by simp
 |t::l,a,h=>by
  have h1:=jC l (a+BC t.1 xs t.2 t.2.length) fun t ht=>h t (by simp [ht])
  have h2:=Vc a (BC t.1 xs t.2 t.2.length)
  have h3:=h t (by simp)
  rw [List.foldl_cons,List.length_cons,Nat.add_mul];omega
def ub (p:Pt) (ss:List (List UInt8)):List UInt8×Int :=
 if DB p ss.length=0 then(if Qm (ss.map Ja)=0 then NP (Zu (ss.map Jk) (JA p)) else([],Qm (ss.map Ja))) else([],DB p ss.length)
theorem z6 {w:World} {F:Gs} {a:Yw} {q:Option Addr} {n cap:Nat} {ss:List (List UInt8)} (hF:Fits F w) (hGl:JC F) (hR:Q4 F a.1.q a.1.n 2 (a.2.flatMap KU)) (hA:Zl F a.2) (ht:VB a) (hS:Q4 F q n 1 (ss.map tx)) (hn:ss.length=n) (hsl:∀ s∈ss,s.length≤1000000) (hnb:n≤1000000) :
  Qc Tryz.prog 80 [a.1.v,.slice q n cap] w F (.tuple #[tx (ub (Jp a.2) ss).1,.int .i64 (ub (Jp a.2) ss).2]):=by
 dsimp only [Sr.v]
 refine QT.intro (G:=fun F=>JC F∧Q4 F a.1.q a.1.n 2 (a.2.flatMap KU)∧Zl F a.2∧Q4 F q n 1 (ss.map tx)) Tryz.func80 rfl (by rfl) rfl rfl hF (fun F' hF'=>⟨hGl.le hF',hR.le hF',hA.le hF',hS.le hF'⟩)<|J_sr<|JS_as rfl<|JS_as rfl<|JS_nt<|QG<|J_sr<|JS_mv rfl<|JS_mv rfl<|QA (Qi rfl Hz)<|QH rfl (fun w F hF h9=>A3 hF (h9.1) (h9.2.1) (h9.2.2.1) (ht) (hnb)) (fun _=>JS_as rfl<|JS_nt<|J_sr<|JS_mv rfl<|QA (QU rfl rfl rfl)<|QE<|QC ?_)
 refine QP rfl (fun hc=>?_) (fun hc=>?_)
 ·
  have hc0:=bne_iff_ne.1 hc
  refine J_sr<|JS_mv rfl<|JS_as rfl<|JS_as rfl<|JS_nt<|QS ?_
  exact JX (()) rfl (.tmp rfl (.tmp rfl .nil)) (by unfold ub;rw [hn,if_neg hc0]) (fun F h9=>trivial)
 ·
  have hc0:=bne_eq_false_iff_eq.1 hc
  have hpl:Qm [if decide ((n:Int)=0)=true then 2 else 0,if decide ((n:Int)>25)=true then 5 else 0]=0∧XF (Jp a.2) ((n:Int) - 1)=0:=by
   unfold DB at hc0
   by_cases g:Qm [if decide ((n:Int)=0)=true then 2 else 0,if decide ((n:Int)>25)=true then 5 else 0]=0
   ·rw [if_pos g] at hc0;exact⟨g,hc0⟩
   ·rw [if_neg g] at hc0;exact absurd hc0 g
  have hn1:=UK hpl.1
  have oa:=KE hpl.2
  refine QO<|QC<|QG<|J_sr<|JS_mv rfl<|QH rfl (fun w F hF h9=>FO hF h9.1.1 (h9.1.2.2.2) ⟨hnb,hsl⟩) (fun _=>JS_as rfl<|JS_nt<|J_sr<|JS_mv rfl<|QA (QU rfl rfl rfl)<|QE<|QC ?_)
  refine QP rfl (fun hc=>?_) (fun hc=>?_)
  ·
   have hd0:=bne_iff_ne.1 hc
   refine J_sr<|JS_mv rfl<|JS_as rfl<|JS_as rfl<|JS_nt<|QS ?_
   exact JX (()) rfl (.tmp rfl (.tmp rfl .nil)) (by unfold ub;rw [hn,if_pos hc0,if_neg hd0]) (fun F h9=>trivial)
  ·
   have hd0:=bne_eq_false_iff_eq.1 hc
   have hck:∀ s∈ss,Ja s=0:=fun s hs=>R9 hd0 _ (List.mem_map.2 ⟨s,hs,rfl⟩)
   have hxs:∀ x∈ss.map Jk,JO x≤2400:=fun x hx=>by
    obtain ⟨s,hs,rfl⟩:=List.mem_map.1 hx
    exact XR (hck s hs)
   have hpa:∀ t∈JA (Jp a.2),PW t.2:=oa.pw (by omega)
   have hpk:∀ t∈JA (Jp a.2),∀ k∈t.2,0≤k∧k≤12:=fun t ht=>by
    unfold JA at ht
    obtain ⟨x,hx,rfl⟩:=List.mem_map.1 ht
    exact(Z8 (oa.term x hx)).2.1
   have hwd:∀ t∈JA (Jp a.2),t.2.length=n:=fun t ht=>by have:=oa.wide t ht;omega
   have la:(JA (Jp a.2)).length≤64:=by unfold JA;rw [List.length_map];exact oa.len
   have hsl2:(ss.map Jk).length=n:=by rw [List.length_map];exact hn
   have hvm:∀ t∈JA (Jp a.2),∀ i,i≤n→JO (BC t.1 (ss.map Jk) t.2 i)≤722425:=fun t ht i hi=>by
    have h1:=dL (oa.sz t ht) hxs (hpk t ht) i (by omega) (by rw [hwd t ht];exact hi)
    have h2:i*28801≤25*28801:=Nat.mul_le_mul_right _ (by omega)
    omega
   have hev:∀ l:List Tm,(∀ t∈l,t∈JA (Jp a.2))→l.length≤64→JO (Zu (ss.map Jk) l)≤50000000:=fun l hl h64=>by
    have h1:=jC (xs:=ss.map Jk) (B:=722425) l 0 fun t ht=>hvm t (hl t ht) _ (Nat.le_of_eq (hwd t (hl t ht)))
    have h2:JO (0:Rat)≤1:=by decide
    have h3:l.length*722426≤64*722426:=Nat.mul_le_mul_right _ h64
    unfold Zu;omega
   refine QO<|QC<|J_sr<|JS_mv rfl<|QH rfl (fun w F hF h9=>KV hF h9.1.1.1 (a:=a) h9.1.1.2.1 h9.1.1.2.2.1 ht oa (by omega)) (fun c21=>JH _ (fun w F hF h=>And.intro h.2.2.2.1 h.2.len) (fun h21p=>?_))
   obtain ⟨e21,l21⟩:=h21p
   refine JS_mv rfl<|QH rfl (fun w F hF h9=>kM hF h9.1.1.1.1 h9.1.1.1.2.2.2 hn hnb (fun s hs=>⟨hck s hs,hsl s hs⟩)) (fun c23=>JH _ (fun w F hF h=>h.2.2.2) (fun h23p=>?_))
   obtain ⟨e23,l23,n23⟩:=h23p
   refine QH rfl (fun w F hF ⟨⟨⟨⟨⟨hGl,hR,hA,hS⟩,_⟩,_⟩,h21⟩,h23⟩=>di hF (q:=c21.1.q) (n:=c21.1.n) (cap:=c21.1.cap) (ts:=c21.2) (q2:=c23.1.q) (n2:=c23.1.n) (cap2:=c23.1.cap) (xs:=c23.2) (by rw [e21];exact h21) h23.1 h23.2.1 l23
    (Jz (Q:=fun t=>t.2.length=c23.1.n∧PW t.2) e21 fun t ht=>⟨by rw [n23];exact hwd t ht,hpa t ht⟩) (by omega)
    (Jz (Q:=fun t=>∀ i,i≤c23.1.n→JO (BC t.1 (c23.2.map (·.2)) t.2 i)≤50000000) e21 fun t ht i hi=>by rw [e23];exact Nat.le_trans (hvm t ht i (by omega)) (by decide))
    (Jz (Q:=fun t=>∀ i,i<c23.1.n→(Qb t.2 i).toNat*JO (el c23.2 i).2≤40000000) e21 fun t ht i hi=>by
     have h1:JO (el c23.2 i).2≤2400:=by
      rw [← y6 (by omega),e23];exact hxs _ (JN (by omega))
     have h2:0≤Qb t.2 i∧Qb t.2 i≤12:=by rw [Xx (by rw [hwd t ht];omega)];exact hpk t ht _ (JN (by rw [hwd t ht];omega))
     exact Nat.le_trans (Nat.mul_le_mul (show(Qb t.2 i).toNat≤12 by omega) h1) (by decide))
    (fun i hi=>by
     rw [e23]
     refine hev _ (fun t ht=>?_) (by rw [Yy,List.length_take];omega)
     unfold JG at ht e21
     rw [← e21]
     obtain ⟨y,hy,rfl⟩:=List.mem_map.1 ht
     exact List.mem_map_of_mem (List.mem_of_mem_take hy))) (fun x24=>?_)
   rw [e21,e23]
   refine QH rfl (fun w F hF ⟨⟨⟨⟨⟨⟨hGl,hR,hA,hS⟩,_⟩,_⟩,h21⟩,h23⟩,⟨h24,h24_⟩⟩=>IP hF hGl ⟨by assumption,by assumption⟩ (by have:=hev _ (fun t ht=>ht) la;omega)) (fun _=>QA (QK rfl rfl)<|QA (QK rfl rfl)<|JS_as rfl<|JS_as rfl<|JS_nt<|QS ?_)
   exact JX (()) rfl (.tmp rfl (.tmp rfl .nil)) (by unfold ub;rw [hn,if_pos hc0,if_pos hd0];rfl) (fun F h9=>trivial)
end
section
open Go.RowKit Ig
theorem MX {w:World} {F:Gs} {r:Sr} {l:List Int} (hF:Fits F w) (hR:JL F r l) (hp:PW l):Qc Tryz.prog 195 [r.v] w F (.int .i64 l.sum):=by
 obtain ⟨q,n,c⟩:=r
 have hln:=hR.2.1
 dsimp only [Sr.v] at hln ⊢
 have hl1:=hp.2
 refine QT.intro (G:=fun F=>JL F ⟨q,n,c⟩ l) Tryz.func195 rfl (by rfl) rfl rfl hF (fun F' hF'=>hR.le hF')<|J_sr<|JS_as rfl<|JS_nt<|J_sr<|JS_as rfl<|JS_nt<|QG<|J_sr<|JS_as rfl<|JS_nt<|QX<|ZT (ι:={i:Nat // i≤l.length}) [(0,_)] (fun i=>[(3,.int .i64 ((l.take i.1).sum)),(4,.int .i64 ((i.1:Nat):Int))]) (fun i=>l.length - i.1) (⟨0,Nat.zero_le _⟩) ⟨rfl,trivial⟩ ⟨rfl,rfl,trivial⟩ (fun i=>?_)
 simp only [List.cons_append,List.nil_append]
 have hi:=i.2
 have hs:=hp.sum i.1 hi
 refine QG<|J_sr<|JS_mv rfl<|JS_mv rfl<|QA (Qi rfl Qd)<|QA (QU rfl rfl rfl)<|QE<|QC ?_
 refine QP rfl (fun hc=>?_) (fun hc=>?_)
 ·
  have hlt:i.1<l.length:=by have:=dec_t hc;omega
  have he:=hp.el hlt
  refine QO<|QC<|QG<|QX<|QB<|JS_mv rfl<|JS_mv rfl<|JS_mv rfl<|QA (JK (n:=n) (i.1) (fun F hR=>(hR).1) rfl rfl Qd Qs (by omega))<|QA (JM (n:=n) ((i.1)*1) (fun F hR=>(hR).1) (by omega) rfl Qs (JJ (o:=l) (by omega)))<|QA (Qp rfl rfl (by omega))<|JS_as rfl<|QE<|Qk<|QC<|QB<|JS_mv rfl<|QA (Qp rfl rfl (by omega))<|JS_as rfl<|QE ?_
  exact Ql (⟨i.1+1,hlt⟩) (by show l.length - (i.1+1)<l.length - i.1;omega) ⟨rfl,(congrArg (fun z:Int=>some (Value.int .i64 z)) (BH hlt).symm),rfl,trivial⟩ subl_r (fun F h=>h)
 ·
  have hge:i.1=l.length:=by have:=dec_f hc;omega
  refine Qy ?_
  repeat (first | refine QZ ?_ | refine QV (by rfl) ?_)
  refine Qa<|QC<|J_sr<|JS_mv rfl<|JS_as rfl<|JS_nt<|QS ?_
  exact F_r1 rfl rfl (congrArg (Value.int .i64) (by rw [List.take_of_length_le (by omega)])) (fun F hR=>trivial)
theorem kE {w:World} {F:Gs} {q q2:Option Addr} {n c n2 c2:Nat} {a b:List Int} (hF:Fits F w) (hA:JL F ⟨q,n,c⟩ a) (hB:JL F ⟨q2,n2,c2⟩ b) (pa:PW a) (pb:PW b) (hl:a.length=b.length):Qc Tryz.prog 157 [.slice q n c,.slice q2 n2 c2] w F (.bool (before a b)):=by
 have na:=hA.2.1
 have nb:=hB.2.1
 dsimp only at na nb
 have la:=pa.2
 refine QT.intro (G:=fun F=>JL F ⟨q,n,c⟩ a∧JL F ⟨q2,n2,c2⟩ b) Tryz.func157 rfl (by rfl) rfl rfl hF (fun F' hF'=>⟨hA.le hF',hB.le hF'⟩)<|J_sr<|JS_as rfl<|JS_nt<|QG<|J_sr<|JS_mv rfl<|QH rfl (fun w F hF h9=>MX hF (r:=⟨q,n,c⟩) h9.1 (pa)) (fun _=>JS_mv rfl<|QH rfl (fun w F hF h9=>MX hF (r:=⟨q2,n2,c2⟩) h9.1.2 (pb)) (fun _=>QA (QU rfl rfl rfl)<|QE<|QC ?_))
 refine QP rfl (fun hc=>?_) (fun hc=>?_)
 ·
  have hne:=bne_iff_ne.1 hc
  refine J_sr<|JS_mv rfl<|QH rfl (fun w F hF h9=>MX hF (r:=⟨q,n,c⟩) h9.1.1.1 (pa)) (fun _=>JS_mv rfl<|QH rfl (fun w F hF h9=>MX hF (r:=⟨q2,n2,c2⟩) h9.1.1.1.2 (pb)) (fun _=>QA (QU rfl rfl rfl)<|JS_as rfl<|JS_nt<|QS ?_))
  exact F_r1 rfl rfl (congrArg Value.bool (by unfold before;rw [decide_eq_false hne,Bool.false_and,Bool.or_false])) (fun F h9=>trivial)
 ·
  have hne:=bne_eq_false_iff_eq.1 hc
  refine QO<|QC<|QG<|J_sr<|JS_as rfl<|JS_nt<|QX<|ZT (ι:=kc a b) [(0,_),(1,_)] (fun i=>[(5,.int .i64 ((i.i:Nat):Int))]) (fun i=>a.length - i.i) (⟨0,Nat.zero_le _,rfl⟩) ⟨rfl,rfl,trivial⟩ ⟨rfl,trivial⟩ (fun i=>?_)
  simp only [List.cons_append,List.nil_append]
  have hi:=i.le
  refine QG<|J_sr<|JS_mv rfl<|JS_mv rfl<|QA (Qi rfl Qd)<|QA (QU rfl rfl rfl)<|QE<|QC ?_
  refine QP rfl (fun hc=>?_) (fun hc=>?_)
  ·
   have hlt:i.i<a.length:=by have:=dec_t hc;omega
   refine QO<|QC<|QG<|QX<|QG<|JR subl_r mixed (by kernel_rfl)<|QM (QD rfl)<|QM (QD rfl)<|QM (JK (n:=n) (i.i) (fun F h9=>(h9.1.1.1).1) rfl rfl Qd Qs (by omega))<|QM (JM (n:=n) ((i.i)*1) (fun F h9=>(h9.1.1.1).1) (by omega) rfl Qs (JJ (o:=a) (by omega)))<|QM (QD rfl)<|QM (QD rfl)<|QM (JK (n:=n2) (i.i) (fun F h9=>(h9.1.1.2).1) rfl rfl Qd Qs (by omega))<|QM (JM (n:=n2) ((i.i)*1) (fun F h9=>(h9.1.1.2).1) (by omega) rfl Qs (JJ (o:=b) (by omega)))<|QM (QU rfl rfl rfl)<|Q9<|QC ?_
   refine QP rfl (fun hc=>?_) (fun hc=>?_)
   ·
    have he:=bne_iff_ne.1 hc
    refine QG<|JR subl_r mixed (by kernel_rfl)<|QM (QD rfl)<|QM (QD rfl)<|QM (JK (n:=n) (i.i) (fun F h9=>(h9.1.1.1).1) rfl rfl Qd Qs (by omega))<|QM (JM (n:=n) ((i.i)*1) (fun F h9=>(h9.1.1.1).1) (by omega) rfl Qs (JJ (o:=a) (by omega)))<|QM (QD rfl)<|QM (QD rfl)<|QM (JK (n:=n2) (i.i) (fun F h9=>(h9.1.1.2).1) rfl rfl Qd Qs (by omega))<|QM (JM (n:=n2) ((i.i)*1) (fun F h9=>(h9.1.1.2).1) (by omega) rfl Qs (JJ (o:=b) (by omega)))<|QM (QU rfl rfl rfl)<|QM (QF rfl)<|Q9<|QC<|QS ?_
    repeat (first | refine JE ?_ | refine Q3 ?_)
    exact F_r1 rfl rfl (congrArg Value.bool (by unfold before;rw [i.step hlt (by omega),decide_eq_false he,hne];simp)) (fun F h9=>trivial)
   ·
    have he:=bne_eq_false_iff_eq.1 hc
    refine QO<|Qk<|QC<|QB<|JS_mv rfl<|QA (Qp rfl rfl (by omega))<|JS_as rfl<|QE ?_
    exact Ql (⟨i.i+1,hlt,by rw [i.step hlt (by omega),he];simp⟩) (by show a.length - (i.i+1)<a.length - i.i;omega) ⟨rfl,rfl,rfl,trivial⟩ subl_r (fun F h=>h)
  ·
   have hge:i.i=a.length:=by have:=dec_f hc;omega
   refine Qy ?_
   repeat (first | refine QZ ?_ | refine QV (by rfl) ?_)
   refine Qa<|QC<|J_sr<|JS_as rfl<|JS_nt<|QS ?_
   exact F_r1 rfl rfl (congrArg Value.bool (by unfold before;rw [i.h,hge,List.drop_of_length_le (Nat.le_refl _),hne];simp [Zi])) (fun F h9=>trivial)
end
section
open Go.RowKit Ig
theorem xw {f:List UInt8} {l:List Int} {v:Int} (h1:(l.length:Int)=v+1) (h2:∀ k∈l,0≤k):Zy f l v=if decide (Kd l>12)=true then 4 else Ja f:=by
 unfold Zy
 rw [if_neg (fun h=>h h1),if_neg (jU h2)]
 simp only [Qm]
 by_cases g:decide (Kd l>12)=true
 ·rw [if_pos g,if_pos g,if_neg (by decide)]
 ·rw [if_neg g,if_neg g,if_pos rfl]
  by_cases k:Ja f=0
  ·rw [k];rfl
  ·rw [if_neg k]
theorem CP {w:World} {F:Gs} {f:List UInt8} {q:Option Addr} {n cap:Nat} {l:List Int} {v:Int} (hF:Fits F w) (hGl:JC F) (hR:JL F ⟨q,n,cap⟩ l) (hf:f.length≤9223372036854775807) (hl:l.length≤9223372036854775807) (hv : -1000000≤v∧v≤1000000):Qc Tryz.prog 156 [.agg #[tx f,.slice q n cap],.int .i64 v] w F (.int .i64 (Zy f l v)):=by
 have hln:l.length=n:=hR.2.1
 refine QT.intro (G:=fun F=>JC F∧JL F ⟨q,n,cap⟩ l) Tryz.func156 rfl (by rfl) rfl rfl hF (fun F' hF'=>⟨hGl.le hF',hR.le hF'⟩)<|J_sr<|Q5 rfl (vs:=[_,_]) rfl (fun b2=>JS_as rfl<|JS_nt<|QG<|J_sr<|QA (QI rfl Yp Qv)<|QA (Qo rfl Qv .here (.skip (.here .nil)))<|QA (Qi rfl Qd)<|JS_mv rfl<|QA (Qp rfl rfl (by omega))<|QA (QU rfl rfl rfl)<|QE<|QC ?_)
 refine QP rfl (fun hc=>?_) (fun hc=>?_)
 ·
  have hne:=bne_iff_ne.1 hc
  refine J_sr<|JS_as rfl<|JS_nt<|QS ?_
  exact F_r1 rfl rfl (congrArg (Value.int .i64) (by unfold Zy;rw [if_pos (by rw [hln];exact hne)])) (fun F h9=>trivial)
 ·
  have heq:=bne_eq_false_iff_eq.1 hc
  refine QO<|QC<|J_sr<|JS_as rfl<|JS_nt<|QG<|J_sr<|JS_as rfl<|JS_nt<|QX<|ZT (ι:=pV l) [(2,_)] (fun i=>[(5,.int .i64 (Kd (l.take i.i))),(6,.int .i64 ((i.i:Nat):Int))]) (fun i=>l.length - i.i) (⟨0,Nat.zero_le _,by simp⟩) ⟨rfl,trivial⟩ ⟨rfl,rfl,trivial⟩ (fun i=>?_)
  simp only [List.cons_append,List.nil_append]
  have hi:=i.le
  have hb:=Ht _ i.nn
  rw [List.length_take] at hb
  refine QG<|J_sr<|JS_mv rfl<|QA (QI rfl Yp Qv)<|QA (Qo rfl Qv .here (.skip (.here .nil)))<|QA (Qi rfl Qd)<|QA (QU rfl rfl rfl)<|QE<|QC ?_
  refine QP rfl (fun hc=>?_) (fun hc=>?_)
  ·
   have hlt:i.i<l.length:=by have:=dec_t hc;omega
   refine QO<|QC<|QG<|QX<|QG<|J_sr<|QA (QI rfl Yp Qv)<|QA (Qo rfl Qv .here (.skip (.here .nil)))<|JS_mv rfl<|QA (JK (n:=n) (i.i) (fun F h9=>(h9.2).1) rfl rfl Qd Qs (by omega))<|QA (JM (n:=n) ((i.i)*1) (fun F h9=>(h9.2).1) (by omega) rfl Qs (JJ (o:=l) (by omega)))<|QA (QU rfl rfl rfl)<|QE<|QC ?_
   refine QP rfl (fun hc=>?_) (fun hc=>?_)
   ·
    have hng:=dec_t hc
    refine J_sr<|JS_as rfl<|JS_nt<|QS ?_
    repeat (first | refine JE ?_ | refine Q3 ?_)
    exact F_r1 rfl rfl (congrArg (Value.int .i64) (by unfold Zy;rw [if_neg (by rw [hln];exact fun h=>h heq),if_pos (LH hlt hng)])) (fun F h9=>trivial)
   ·
    have hng:=dec_f hc
    refine QO<|QC<|QB<|JS_mv rfl<|QA (QI rfl Yp Qv)<|QA (Qo rfl Qv .here (.skip (.here .nil)))<|JS_mv rfl<|QA (JK (n:=n) (i.i) (fun F h9=>(h9.2).1) rfl rfl Qd Qs (by omega))<|QA (JM (n:=n) ((i.i)*1) (fun F h9=>(h9.2).1) (by omega) rfl Qs (JJ (o:=l) (by omega)))<|QA (Cd rfl rfl)<|QA (Qp rfl rfl (by omega))<|JS_as rfl<|QE<|Qk<|QC<|QB<|JS_mv rfl<|QA (Qp rfl rfl (by omega))<|JS_as rfl<|QE ?_
    exact Ql (⟨i.i+1,hlt,by intro k hk;rw [X4 hlt] at hk;rcases List.mem_append.1 hk with hk | hk;exact i.nn k hk;rw [List.mem_singleton.1 hk,← Xx hlt];omega⟩) (by show l.length - (i.i+1)<l.length - i.i;omega) ⟨rfl,(congrArg (fun z:Int=>some (Value.int .i64 z)) (UN hlt).symm),rfl,trivial⟩ subl_r (fun F h=>h)
  ·
   have hge:i.i=l.length:=by have:=dec_f hc;omega
   refine Qy ?_
   repeat (first | refine QZ ?_ | refine QV (by rfl) ?_)
   refine Qa<|QC<|QG<|QG<|QB ?_
   rw [hge,List.take_length]
   have hnn:=i.nn
   rw [hge,List.take_length] at hnn
   have hte:=xw (f:=f) (v:=v) (by rw [hln];exact heq) hnn
   refine JS_mv rfl<|QA (QU rfl rfl rfl)<|QE<|QC ?_
   refine QP rfl (fun hc=>?_) (fun hc=>?_)
   ·
    have hbg:=hc
    refine J_sr<|JS_as rfl<|JS_nt<|QS ?_
    exact F_r1 rfl rfl (congrArg (Value.int .i64) (by rw [hte,if_pos hbg])) (fun F h9=>trivial)
   ·
    have hbg:=hc
    refine QO<|QC<|J_sr<|QA (QI rfl WQ Jy)<|QA (Qo rfl Jy .here (.here .nil))<|QH rfl (fun w F hF h9=>Cc hF (hf)) (fun _=>JS_as rfl<|JS_nt<|QS ?_)
    exact F_r1 rfl rfl (congrArg (Value.int .i64) (by rw [hte,hbg];rfl)) (fun F h9=>trivial)
end
section
open Go.RowKit Ig
section
variable {ps:List Vr} {v:Int} {i:Nat}
theorem cn (h:i<ps.length) (he:Zy (el ps i).f (el ps i).k v≠0):VX (Jp ps) v i=Zy (el ps i).f (el ps i).k v:=by
 have e:Qm [Zy (el ps i).f (el ps i).k v,if((el ps i).f==[48])=true then 6 else 0]=Zy (el ps i).f (el ps i).k v:=by
  unfold Qm;rw [if_neg he]
 rw [step_eq h e,if_neg (fun g=>he g.1)]
theorem cm (h:i<ps.length) (he:Zy (el ps i).f (el ps i).k v=0) (hz:((el ps i).f==[48])=true):VX (Jp ps) v i=6:=by
 have e:Qm [Zy (el ps i).f (el ps i).k v,if((el ps i).f==[48])=true then 6 else 0]=6:=by
  rw [he,if_pos hz];rfl
 rw [step_eq h e,if_neg (fun g=>by have:=g.1;omega)]
theorem vD (h:i<ps.length) (he:Zy (el ps i).f (el ps i).k v=0) (hz:((el ps i).f==[48])=false):VX (Jp ps) v i=if 0<i∧before (el ps (i - 1)).k (el ps i).k=false then 11 else 0:=by
 have e:Qm [Zy (el ps i).f (el ps i).k v,if((el ps i).f==[48])=true then 6 else 0]=0:=by
  rw [he,hz];rfl
 rw [step_eq h e]
 have hb:(0≤K8 (el ps (i - 1)).k (el ps i).k)↔before (el ps (i - 1)).k (el ps i).k=false:=by
  rw [Kx,decide_eq_false_iff_not];omega
 by_cases g:0<i∧before (el ps (i - 1)).k (el ps i).k=false
 ·rw [if_pos g,if_pos ⟨rfl,g.1,hb.2 g.2⟩]
 ·rw [if_neg g,if_neg (fun h=>g ⟨h.2.1,hb.1 h.2.2⟩)]
end
theorem CQ {w:World} {F:Gs} {q:Option Addr} {n cap:Nat} {ps:List Vr} {v:Int} (hF:Fits F w) (hGl:JC F) (hR:Q4 F q n 2 (ps.flatMap KU)) (hP:Zl F ps) (hln:ps.length=n) (hf:∀ t∈ps,t.f.length≤9223372036854775807∧t.k.length≤9223372036854775807) (hl:ps.length≤9223372036854775807) (hv:0≤v∧v≤24):Qc Tryz.prog 61 [.slice q n cap,.int .i64 v] w F (.int .i64 (XF (Jp ps) v)):=by
 have hal:(Jp ps).length=n:=by unfold Jp;rw [List.length_map];exact hln
 refine QT.intro (G:=fun F=>JC F∧Q4 F q n 2 (ps.flatMap KU)∧Zl F ps) Tryz.func61 rfl (by rfl) rfl rfl hF (fun F' hF'=>⟨hGl.le hF',hR.le hF',hP.le hF'⟩)<|J_sr<|JS_as rfl<|JS_nt<|QG<|J_sr<|JS_mv rfl<|QA (Qi rfl Xk)<|QA (QU rfl rfl rfl)<|QE<|QC ?_
 refine QP rfl (fun hc=>?_) (fun hc=>?_)
 ·
  have hbig:=hc
  refine J_sr<|JS_as rfl<|JS_nt<|QS ?_
  exact F_r1 rfl rfl (congrArg (Value.int .i64) (by unfold XF;rw [hal,if_pos hbig])) (fun F h9=>trivial)
 ·
  have hbig:=dec_f hc
  refine QO<|QC<|QG<|J_sr<|JS_as rfl<|JS_nt<|QX<|ZT (ι:=LC (Jp ps) v n) [(0,_),(1,_)] (fun i=>[(5,.int .i64 ((i.i:Nat):Int))]) (fun i=>n - i.i) (⟨0,Nat.zero_le _,fun j hj=>absurd hj (Nat.not_lt_zero _)⟩) ⟨rfl,rfl,trivial⟩ ⟨rfl,trivial⟩ (fun i=>?_)
  simp only [List.cons_append,List.nil_append]
  have hi:=i.le
  refine QG<|J_sr<|JS_mv rfl<|JS_mv rfl<|QA (Qi rfl Xk)<|QA (QU rfl rfl rfl)<|QE<|QC ?_
  refine QP rfl (fun hc=>?_) (fun hc=>?_)
  ·
   have hlt:i.i<n:=by have:=dec_t hc;omega
   have htm:el ps i.i∈ps:=JN (by omega)
   refine QO<|QC<|QG<|QX<|J_sr<|JS_mv rfl<|JS_mv rfl<|QA (JK (n:=n) (i.i) (fun F h9=>h9.2.1) rfl rfl Xk XO (by omega))<|QA (Xq (n:=n) (vs:=[tx (el ps (i.i)).f,.slice (el ps (i.i)).r.q (el ps (i.i)).r.n (el ps (i.i)).r.cap]) ((i.i)*2) (fun F h9=>h9.2.1) (by omega) rfl XO rfl (fun j v hv=>J2 (f:=KU) (l:=ps) YP (by omega) hv))<|JS_mv rfl<|QH rfl (fun w F hF h9=>CP hF (h9.1) (f:=(el ps i.i).f) (l:=(el ps i.i).k) (h9.2.2 _ htm) ((hf _ htm).1) ((hf _ htm).2) (by omega)) (fun _=>JS_as rfl<|JS_nt<|QG<|J_sr<|JS_mv rfl<|QA (QU rfl rfl rfl)<|QE<|QC ?_)
   refine QP rfl (fun hc=>?_) (fun hc=>?_)
   ·
    have h23:=bne_iff_ne.1 hc
    refine J_sr<|JS_mv rfl<|JS_as rfl<|JS_nt<|QS ?_
    repeat (first | refine JE ?_ | refine Q3 ?_)
    exact F_r1 rfl rfl (congrArg (Value.int .i64) (HZ hal hbig i hlt (cn (by omega) h23) h23)) (fun F h9=>trivial)
   ·
    have h23:=bne_eq_false_iff_eq.1 hc
    refine QO<|QC<|QG<|J_sr<|JS_mv rfl<|JS_mv rfl<|QA (JK (n:=n) (i.i) (fun F h9=>h9.1.2.1) rfl rfl Xk XO (by omega))<|QA (QI rfl WQ Jy)<|QA (JM (n:=n) ((i.i)*2+0) (fun F h9=>h9.1.2.1) (by omega) rfl Jy (J2 (f:=KU) (l:=ps) YP (by omega) rfl))<|QH rfl (fun w F hF h9=>dU hF ) (fun _=>QE<|QC ?_)
    refine QP rfl (fun hc=>?_) (fun hc=>?_)
    ·
     have h30:=hc
     refine J_sr<|JS_as rfl<|JS_nt<|QS ?_
     repeat (first | refine JE ?_ | refine Q3 ?_)
     exact F_r1 rfl rfl (congrArg (Value.int .i64) (HZ hal hbig i hlt (cm (by omega) h23 h30) (by decide))) (fun F h9=>trivial)
    ·
     have h30:=hc
     refine QO<|QC<|QG<|JR subl_r mixed (by kernel_rfl)<|QM (QD rfl)<|QM (QU rfl rfl rfl)<|QM (QD rfl) ?_
     refine HQ (t:=33) rfl (fun hb33=>?_) (fun hb33=>?_)
     ·
      have hi0:0<i.i:=by have:=dec_t hb33;omega
      have hz0:=(MV (i.z (i.i - 1) (by omega))).1
      rw [Gy (show i.i - 1<ps.length by omega)] at hz0
      have htm0:el ps (i.i - 1)∈ps:=JN (by omega)
      refine Jx rfl rfl<|QM (QD rfl)<|Jx rfl rfl<|QM (QD rfl)<|Jx rfl rfl<|QM (J7 rfl rfl (by omega))<|Jx rfl rfl<|QM (JK (n:=n) ((i.i - 1)) (fun F h9=>h9.1.1.2.1) rfl (congrArg (fun z:Int=>some (Value.int .i64 z)) (by omega)) Xk XO (by omega))<|Jx rfl rfl<|QM (QI rfl Yp Qv)<|Jx rfl rfl<|QM (JM (n:=n) (((i.i - 1))*2+1) (fun F h9=>h9.1.1.2.1) (by omega) rfl Qv (J2 (f:=KU) (l:=ps) YP (by omega) rfl))<|Jx rfl rfl<|QM (QD rfl)<|Jx rfl rfl<|QM (QD rfl)<|Jx rfl rfl<|QM (JK (n:=n) (i.i) (fun F h9=>h9.1.1.2.1) rfl rfl Xk XO (by omega))<|Jx rfl rfl<|QM (QI rfl Yp Qv)<|Jx rfl rfl<|QM (JM (n:=n) ((i.i)*2+1) (fun F h9=>h9.1.1.2.1) (by omega) rfl Qv (J2 (f:=KU) (l:=ps) YP (by omega) rfl))<|Jx rfl rfl<|Qg rfl (fun w F hF h9=>kE hF (a:=(el ps (i.i - 1)).k) (b:=(el ps i.i).k) (h9.1.1.2.2 _ htm0) (h9.1.1.2.2 _ htm) (KZ hz0 hv.2) (KZ h23 hv.2) (by have h1:=(Z8 hz0).1;have h2:=(Z8 h23).1;dsimp only at h1;omega)) (fun _=>Jx rfl rfl ?_)
      refine QM (Z0 rfl)<|QM (Qj rfl rfl rfl)<|Q9<|QC ?_
      refine QP rfl (fun hc=>?_) (fun hc=>?_)
      ·
       refine J_sr<|JS_as rfl<|JS_nt<|QS ?_
       repeat (first | refine JE ?_ | refine Q3 ?_)
       exact F_r1 rfl rfl (congrArg (Value.int .i64) (HZ hal hbig i hlt (by rw [vD (by omega) h23 h30,if_pos ⟨hi0,by simpa using hc⟩]) (by decide))) (fun F h9=>trivial)
      ·
       refine QO<|Qk<|QC<|QB<|JS_mv rfl<|QA (Qp rfl rfl (by omega))<|JS_as rfl<|QE ?_
       exact Ql (⟨i.i+1,hlt,fun j hj=>by
        rcases Nat.lt_or_ge j i.i with g | g
        ·exact i.z j g
        ·rw [show j=i.i from by omega];first | (rw [vD (by omega) h23 h30,if_neg (fun h=>by have:=dec_f hb33;omega)]) | (rw [vD (by omega) h23 h30,if_neg (fun h=>by rw [h.2] at hc;cases hc)])⟩) (by show n - (i.i+1)<n - i.i;omega) ⟨rfl,rfl,rfl,trivial⟩ subl_r (fun F h=>h.1.1.1)
     ·
      refine Jl rfl rfl rfl<|Jl rfl rfl rfl<|Jl rfl rfl rfl<|Jl rfl rfl rfl<|Jl rfl rfl rfl<|Jl rfl rfl rfl<|Jl rfl rfl rfl<|Jl rfl rfl rfl<|Jl rfl rfl rfl<|Jl rfl rfl rfl<|Jl rfl rfl rfl<|Jl rfl rfl rfl<|Jl rfl rfl rfl<|QM (Qh rfl rfl rfl)<|Q9<|QC<|YF rfl<|QO<|Qk<|QC<|QB<|JS_mv rfl<|QA (Qp rfl rfl (by omega))<|JS_as rfl<|QE ?_
      exact Ql (⟨i.i+1,hlt,fun j hj=>by
        rcases Nat.lt_or_ge j i.i with g | g
        ·exact i.z j g
        ·rw [show j=i.i from by omega];first | (rw [vD (by omega) h23 h30,if_neg (fun h=>by have:=dec_f hb33;omega)]) | (rw [vD (by omega) h23 h30,if_neg (fun h=>by rw [h.2] at hc;cases hc)])⟩) (by show n - (i.i+1)<n - i.i;omega) ⟨rfl,rfl,rfl,trivial⟩ subl_r (fun F h=>h.1.1)
  ·
   have hge:n≤i.i:=by have:=dec_f hc;omega
   refine Qy ?_
   repeat (first | refine QZ ?_ | refine QV (by rfl) ?_)
   refine Qa<|QC<|J_sr<|JS_as rfl<|JS_nt<|QS ?_
   exact F_r1 rfl rfl (congrArg (Value.int .i64) (Ao hal hbig i hge)) (fun F h9=>trivial)
end
section
open Go.RowKit Ig
def C5 (p:Pt):Int:=if p.any (fun x=>decide (x.2.sum>12))=true then 4 else if decide ((p.length:Int)>64)=true then 5 else if p.any (fun x=>Wi x.1 != 0)=true then 4 else 0
theorem E9 (ps:List Vr) (q:List UInt8×List Int→Bool):(Jp ps).any q=ps.any fun t=>q (t.f,t.k):=by unfold Jp;rw [List.any_map];rfl
theorem C7 {w:World} {F:Gs} {q:Option Addr} {n cap:Nat} {ps:List Vr} (hF:Fits F w) (hR:Q4 F q n 2 (ps.flatMap KU)) (hP:Zl F ps) (hln:ps.length=n) (hf:∀ t∈ps,t.f.length≤1000000000∧PW t.k) (hl:ps.length≤1000000):Qc Tryz.prog 158 [.slice q n cap] w F (.int .i64 (C5 (Jp ps))):=by
 have hal:(Jp ps).length=n:=by rw [VV];exact hln
 refine QT.intro (G:=fun F=>Q4 F q n 2 (ps.flatMap KU)∧Zl F ps) Tryz.func158 rfl (by rfl) rfl rfl hF (fun F' hF'=>⟨hR.le hF',hP.le hF'⟩)<|J_sr<|JS_as rfl<|JS_nt<|QG<|J_sr<|JS_as rfl<|JS_nt<|QX<|ZT (ι:=Ek ps (fun t=>decide (t.k.sum>12))) [(0,_)] (fun i=>[(3,.int .i64 ((i.i:Nat):Int))]) (fun i=>ps.length - i.i) (Ek.start _ _) ⟨rfl,trivial⟩ ⟨rfl,trivial⟩ (fun i=>?_)
 simp only [List.cons_append,List.nil_append]
 have hi:=i.le
 refine QG<|J_sr<|JS_mv rfl<|JS_mv rfl<|QA (Qi rfl Xk)<|QA (QU rfl rfl rfl)<|QE<|QC ?_
 refine QP rfl (fun hc=>?_) (fun hc=>?_)
 ·
  have hlt:i.i<ps.length:=by have:=dec_t hc;omega
  have htm:=JN hlt
  refine QO<|QC<|QG<|QX<|J_sr<|JS_mv rfl<|JS_mv rfl<|QA (JK (n:=n) (i.i) (fun F h9=>h9.1) rfl rfl Xk XO (by omega))<|QA (QI rfl Yp Qv)<|QA (JM (n:=n) ((i.i)*2+1) (fun F h9=>h9.1) (by omega) rfl Qv (J2 (f:=KU) (l:=ps) YP (by omega) rfl))<|QH rfl (fun w F hF h9=>MX hF (r:=(el ps i.i).r) (h9.2 _ htm) ((hf _ htm).2)) (fun _=>QA (QU rfl rfl rfl)<|QE<|QC ?_)
  refine QP rfl (fun hc=>?_) (fun hc=>?_)
  ·
   have h17:=hc
   refine J_sr<|JS_as rfl<|JS_nt<|QS ?_
   repeat (first | refine JE ?_ | refine Q3 ?_)
   exact F_r1 rfl rfl (congrArg (Value.int .i64) (by unfold C5;rw [E9,if_pos (i.hit hlt h17)])) (fun F h9=>trivial)
  ·
   have h17:=hc
   refine QO<|Qk<|QC<|QB<|JS_mv rfl<|QA (Qp rfl rfl (by omega))<|JS_as rfl<|QE ?_
   exact Ql (i.next hlt h17) (by show ps.length - (i.i+1)<ps.length - i.i;omega) ⟨rfl,rfl,trivial⟩ subl_r (fun F h=>h.1)
 ·
  have hge:ps.length≤i.i:=by have:=dec_f hc;omega
  have hn1:=i.stop hge
  refine Qy ?_
  repeat (first | refine QZ ?_ | refine QV (by rfl) ?_)
  refine Qa<|QC<|QG<|J_sr<|JS_mv rfl<|QA (Qi rfl Xk)<|QA (QU rfl rfl rfl)<|QE<|QC ?_
  refine QP rfl (fun hc=>?_) (fun hc=>?_)
  ·
   have h20:=hc
   refine J_sr<|JS_as rfl<|JS_nt<|QS ?_
   exact F_r1 rfl rfl (congrArg (Value.int .i64) (by unfold C5;rw [E9,if_neg hn1,hal,if_pos h20])) (fun F h9=>trivial)
  ·
   have h20:=hc
   refine QO<|QC<|QG<|J_sr<|JS_as rfl<|JS_nt<|QX<|ZT (ι:=Ek ps (fun t=>Wi t.f != 0)) [(0,_)] (fun i2=>[(4,.int .i64 ((i2.i:Nat):Int))]) (fun i2=>ps.length - i2.i) (Ek.start _ _) ⟨rfl,trivial⟩ ⟨rfl,trivial⟩ (fun i2=>?_)
   simp only [List.cons_append,List.nil_append]
   have hi2:=i2.le
   refine QG<|J_sr<|JS_mv rfl<|JS_mv rfl<|QA (Qi rfl Xk)<|QA (QU rfl rfl rfl)<|QE<|QC ?_
   refine QP rfl (fun hc=>?_) (fun hc=>?_)
   ·
    have hlt:i2.i<ps.length:=by have:=dec_t hc;omega
    have htm:=JN hlt
    refine QO<|QC<|QG<|QX<|J_sr<|JS_mv rfl<|JS_mv rfl<|QA (JK (n:=n) (i2.i) (fun F h9=>h9.1) rfl rfl Xk XO (by omega))<|QA (QI rfl WQ Jy)<|QA (JM (n:=n) ((i2.i)*2+0) (fun F h9=>h9.1) (by omega) rfl Jy (J2 (f:=KU) (l:=ps) YP (by omega) rfl))<|QH rfl (fun w F hF h9=>jx hF ((hf _ htm).1)) (fun _=>QA (QU rfl rfl rfl)<|QE<|QC ?_)
    refine QP rfl (fun hc=>?_) (fun hc=>?_)
    ·
     have h33:=hc
     refine J_sr<|JS_as rfl<|JS_nt<|QS ?_
     repeat (first | refine JE ?_ | refine Q3 ?_)
     exact F_r1 rfl rfl (congrArg (Value.int .i64) (by unfold C5;rw [E9,if_neg hn1,hal,if_neg (by rw [h20];decide),E9,if_pos (i2.hit hlt h33)])) (fun F h9=>trivial)
    ·
     have h33:=hc
     refine QO<|Qk<|QC<|QB<|JS_mv rfl<|QA (Qp rfl rfl (by omega))<|JS_as rfl<|QE ?_
     exact Ql (i2.next hlt h33) (by show ps.length - (i2.i+1)<ps.length - i2.i;omega) ⟨rfl,rfl,trivial⟩ subl_r (fun F h=>h.1)
   ·
    have hge2:ps.length≤i2.i:=by have:=dec_f hc;omega
    have hn2:=i2.stop hge2
    refine Qy ?_
    repeat (first | refine QZ ?_ | refine QV (by rfl) ?_)
    refine Qa<|QC<|J_sr<|JS_as rfl<|JS_nt<|QS ?_
    exact F_r1 rfl rfl (congrArg (Value.int .i64) (by unfold C5;rw [E9,if_neg hn1,hal,if_neg (by rw [h20];decide),E9,if_neg hn2])) (fun F h9=>trivial)
end
section
open Go.RowKit Ig
def ke (p:Pt) (v a b c:Int):Bool:=if(p.length:Int)>a∨XF p v≠0 then false else !(p.any fun x=>decide (x.2.sum>b)||!(P2 x.1 c))
theorem j0 {w:World} {F:Gs} {q:Option Addr} {n cap:Nat} {ps:List Vr} {v a b c:Int} (hF:Fits F w) (hGl:JC F) (hR:Q4 F q n 2 (ps.flatMap KU)) (hP:Zl F ps) (hln:ps.length=n) (hf:∀ t∈ps,t.f.length≤9223372036854775807∧t.k.length≤9223372036854775807) (hl:ps.length≤9223372036854775807) (hv:0≤v∧v≤24) (hcd:0≤c∧c≤1000000):Qc Tryz.prog 97 [.slice q n cap,.int .i64 v,.int .i64 a,.int .i64 b,.int .i64 c] w F (.bool (ke (Jp ps) v a b c)):=by
 have hal:(Jp ps).length=n:=by rw [VV];exact hln
 refine QT.intro (G:=fun F=>JC F∧Q4 F q n 2 (ps.flatMap KU)∧Zl F ps) Tryz.func97 rfl (by rfl) rfl rfl hF (fun F' hF'=>⟨hGl.le hF',hR.le hF',hP.le hF'⟩)<|J_sr<|JS_as rfl<|JS_nt<|QG<|J_sr<|JS_mv rfl<|QA (Qi rfl Xk)<|JS_mv rfl<|QA (QU rfl rfl rfl)<|JS_mv rfl ?_
 refine Qn (t:=16) rfl (fun hb16=>?_) (fun hb16=>?_)
 ·
  have h16:=dec_t hb16
  refine QN rfl rfl rfl<|QN rfl rfl rfl<|QN rfl rfl rfl<|QN rfl rfl rfl<|QA (Qj rfl rfl rfl)<|JS_nt<|Wu rfl<|J_sr<|JS_as rfl<|JS_nt<|QS ?_
  exact F_r1 rfl rfl (congrArg Value.bool (by unfold ke;rw [hal,if_pos (Or.inl h16)])) (fun F h9=>trivial)
 ·
  have h16:=dec_f hb16
  refine QJ rfl rfl<|JS_mv rfl<|QJ rfl rfl<|JS_mv rfl<|QJ rfl rfl<|QH rfl (fun w F hF h9=>CQ hF (h9.1) (h9.2.1) (h9.2.2) (hln) (hf) (hl) (hv)) (fun _=>QJ rfl rfl<|QA (QU rfl rfl rfl)<|QA (Qh rfl rfl rfl)<|QE<|QC ?_)
  refine QP rfl (fun hc2=>?_) (fun hc2=>?_)
  ·
   have h21:=bne_iff_ne.1 hc2
   refine J_sr<|JS_as rfl<|JS_nt<|QS ?_
   exact F_r1 rfl rfl (congrArg Value.bool (by unfold ke;rw [if_pos (Or.inr h21)])) (fun F h9=>trivial)
  ·
   have h21:=bne_eq_false_iff_eq.1 hc2
   have hok:=KE h21
   have hpw:∀ t∈ps,PW t.k:=fun t ht=>KZ (hok.term (t.f,t.k) (List.mem_map.2 ⟨t,ht,rfl⟩)) hv.2
   refine QO<|QC<|QG<|J_sr<|JS_as rfl<|JS_nt<|QX<|ZT (ι:=Ek ps (fun t=>decide (t.k.sum>b)||!(P2 t.f c))) [(0,_),(3,_),(4,_)] (fun i=>[(11,.int .i64 ((i.i:Nat):Int))]) (fun i=>ps.length - i.i) (Ek.start _ _) ⟨rfl,rfl,rfl,trivial⟩ ⟨rfl,trivial⟩ (fun i=>?_)
   simp only [List.cons_append,List.nil_append]
   have hi:=i.le
   refine QG<|J_sr<|JS_mv rfl<|JS_mv rfl<|QA (Qi rfl Xk)<|QA (QU rfl rfl rfl)<|QE<|QC ?_
   refine QP rfl (fun hc2=>?_) (fun hc2=>?_)
   ·
    have hlt:i.i<ps.length:=by have:=dec_t hc2;omega
    have htm:=JN hlt
    refine QO<|QC<|QG<|QX<|J_sr<|JS_mv rfl<|JS_mv rfl<|QA (JK (n:=n) (i.i) (fun F h9=>h9.1.2.1) rfl rfl Xk XO (by omega))<|QA (QI rfl Yp Qv)<|QA (JM (n:=n) ((i.i)*2+1) (fun F h9=>h9.1.2.1) (by omega) rfl Qv (J2 (f:=KU) (l:=ps) YP (by omega) rfl))<|QH rfl (fun w F hF h9=>MX hF (r:=(el ps i.i).r) (h9.1.2.2 _ htm) (hpw _ htm)) (fun _=>JS_mv rfl<|QA (QU rfl rfl rfl)<|JS_mv rfl ?_)
    refine Qn (t:=36) rfl (fun hb36=>?_) (fun hb36=>?_)
    ·
     refine QN rfl rfl rfl<|QN rfl rfl rfl<|QN rfl rfl rfl<|QN rfl rfl rfl<|QN rfl rfl rfl<|QN rfl rfl rfl<|QN rfl rfl rfl<|QN rfl rfl rfl<|QA (Qj rfl rfl rfl)<|JS_nt<|Wu rfl<|J_sr<|JS_as rfl<|JS_nt<|QS ?_
     repeat (first | refine JE ?_ | refine Q3 ?_)
     exact F_r1 rfl rfl (congrArg Value.bool (by unfold ke;rw [hal,if_neg (fun h=>h.elim h16 (fun g=>g h21)),E9,i.hit hlt (by rw [hb36];rfl)];rfl)) (fun F h9=>trivial)
    ·
     refine QJ rfl rfl<|JS_mv rfl<|QJ rfl rfl<|JS_mv rfl<|QJ rfl rfl<|QA (JK (n:=n) (i.i) (fun F h9=>h9.1.1.2.1) rfl rfl Xk XO (by omega))<|QJ rfl rfl<|QA (QI rfl WQ Jy)<|QJ rfl rfl<|QA (JM (n:=n) ((i.i)*2+0) (fun F h9=>h9.1.1.2.1) (by omega) rfl Jy (J2 (f:=KU) (l:=ps) YP (by omega) rfl))<|QJ rfl rfl<|JS_mv rfl<|QJ rfl rfl<|QH rfl (fun w F hF ⟨⟨⟨hGl,hR,hP⟩,_⟩,_⟩=>uL hF (by have h8:Ja (el ps i.i).f=0:=(Z8 (hok.term ((el ps i.i).f,(el ps i.i).k) (List.mem_map.2 ⟨el ps i.i,htm,rfl⟩))).2.2.2;have h9:=Gd (Jk (el ps i.i).f);rw [← (ZO h8).1] at h9;have h10:=XR h8;omega) (hcd)) (fun _=>QJ rfl rfl<|QA (Z0 rfl)<|QA (Qh rfl rfl rfl)<|QE<|QC ?_)
     refine QP rfl (fun hc2=>?_) (fun hc2=>?_)
     ·
      refine J_sr<|JS_as rfl<|JS_nt<|QS ?_
      repeat (first | refine JE ?_ | refine Q3 ?_)
      exact F_r1 rfl rfl (congrArg Value.bool (by unfold ke;rw [hal,if_neg (fun h=>h.elim h16 (fun g=>g h21)),E9,i.hit hlt (by rw [hc2];simp)];rfl)) (fun F h9=>trivial)
     ·
      refine QO<|Qk<|QC<|QB<|JS_mv rfl<|QA (Qp rfl rfl (by omega))<|JS_as rfl<|QE ?_
      exact Ql (i.next hlt (by rw [hb36,Bool.false_or];exact hc2)) (by show ps.length - (i.i+1)<ps.length - i.i;omega) ⟨rfl,rfl,rfl,rfl,trivial⟩ subl_r (fun F h=>h.1.1)
   ·
    have hge:ps.length≤i.i:=by have:=dec_f hc2;omega
    refine Qy ?_
    repeat (first | refine QZ ?_ | refine QV (by rfl) ?_)
    refine Qa<|QC<|J_sr<|JS_as rfl<|JS_nt<|QS ?_
    exact F_r1 rfl rfl (congrArg Value.bool (by unfold ke;rw [hal,if_neg (fun h=>h.elim h16 (fun g=>g h21)),E9];simp only [i.stop hge];rfl)) (fun F h9=>trivial)
end
section
open Go.RowKit Ig
theorem Xa6 {w:World} {F:Gs} {v k:Nat} (hF:Fits F w) (hv:v≤k) (hk:k≤1000):QT Tryz.prog 96 [.int .i64 (v:Nat),.int .i64 (k:Nat)] w F (fun(c:Yw)=>c.1.v) (fun c F=>ZR F c.1 c.2 [([49],(List.replicate (k+1) (0:Int)).set v 1)]):=by
 refine QT.intro (G:=fun F=>True) Tryz.func96 rfl (by rfl) rfl rfl hF (fun F' hF'=>trivial)<|J_sr<|JS_as rfl<|JS_nt<|J_sr<|JS_mv rfl<|QA (Qp rfl rfl (by omega))<|Nz (n:=k+1) (bytes:=8) (congrArg (fun z:Int=>some (Value.int .i64 z)) (by omega)) (congrArg (fun z:Int=>some (Value.int .i64 z)) (by omega)) Qd Qs Vj rfl Db (by omega) (by omega) (fun b8=>?_)
 rw [show X2 [Value.int .i64 0] (k+1)=(List.replicate (k+1) (0:Int)).map Qx by rw [VD];simp [Qx]]
 refine JS_as rfl<|JS_nt<|J_sr<|JS_mv rfl<|JS_mv rfl<|QA (Qw (i:=v) rfl rfl Qd Qs (by omega))<|QQ (vs:=[_]) rfl rfl rfl Qs rfl .here (Ga (by rw [List.length_replicate];omega) (1)) ⟨rfl,trivial⟩<|JS_nt<|QG<|No (b:=b8) .here<|QB<|JS_mv rfl<|QA (Q6 rfl ZH Xf (.cons (vs:=[_]) rfl rfl rfl (.here .nil) (.cons (vs:=[_]) rfl rfl rfl (.skip (.here .nil)) .nil)))<|QW rfl (Q7 Xk) XO Xf rfl rfl (fun b14=>JS_as rfl<|JS_nt<|QS ?_)
 exact QR ((⟨some ⟨b14,0,none⟩,1,1⟩,[⟨[49],⟨some ⟨b8,0,none⟩,k+1,k+1⟩,(List.replicate (k+1) (0:Int)).set v 1⟩])) rfl (.tmp rfl .nil) (rfl) (fun F ⟨⟨_,hz⟩,hs14⟩=>⟨Q4.of hs14 rfl,fun t ht=>by
  rw [List.mem_singleton.1 ht]
  exact⟨Q4.of hz (by simp),by simp,Nat.le_refl _⟩,rfl,Nat.le_refl _,rfl⟩)
end
section
open Go.RowKit Ig
def Fy (have_:Pt) (e bad:Int) (want:Pt):Bool :=
 if bad=0 then(if C5 want=0 then(e==0)&&decide (have_=want) else decide ((have_.length:Int)=0)&&(e==C5 want)) else decide ((have_.length:Int)=0)&&(e==bad)
end
section
open Go.RowKit Ig
theorem y5 {w:World} {F:Gs} {q q2:Option Addr} {n cap n2 cap2:Nat} {a b:List Vr} {e d:Int} (hF:Fits F w) (hR:Q4 F q n 2 (a.flatMap KU)) (hP:Zl F a) (hR2:Q4 F q2 n2 2 (b.flatMap KU)) (hP2:Zl F b) (hln:a.length=n) (hln2:b.length=n2) (hf:∀ t∈a,t.k.length≤1000000) (hf2:∀ t∈b,t.f.length≤1000000000∧PW t.k) (hl:a.length≤1000000) (hl2:b.length≤1000000):Qc Tryz.prog 64 [.slice q n cap,.int .i64 e,.int .i64 d,.slice q2 n2 cap2] w F (.bool (Fy (Jp a) e d (Jp b))):=by
 have hal:(Jp a).length=n:=by rw [VV];exact hln
 refine QT.intro (G:=fun F=>Q4 F q n 2 (a.flatMap KU)∧Zl F a∧Q4 F q2 n2 2 (b.flatMap KU)∧Zl F b) Tryz.func64 rfl (by rfl) rfl rfl hF (fun F' hF'=>⟨hR.le hF',hP.le hF',hR2.le hF',hP2.le hF'⟩)<|J_sr<|JS_as rfl<|JS_nt<|QG<|J_sr<|JS_mv rfl<|QA (QU rfl rfl rfl)<|QE<|QC ?_
 refine QP rfl (fun hc=>?_) (fun hc=>?_)
 ·
  have h10:=eq_of_beq hc
  refine QB<|JS_mv rfl<|QH rfl (fun w F hF h9=>C7 hF (h9.2.2.1) (h9.2.2.2) (hln2) (hf2) (hl2)) (fun _=>JS_as rfl<|JS_nt<|QG<|J_sr<|JS_mv rfl<|QA (QU rfl rfl rfl)<|QE<|QC ?_)
  refine QP rfl (fun hc=>?_) (fun hc=>?_)
  ·
   have h14:=bne_iff_ne.1 hc
   refine J_sr<|JS_mv rfl<|QA (Qi rfl Xk)<|QA (QU rfl rfl rfl)<|JS_mv rfl ?_
   refine Qn (t:=18) rfl (fun hb18=>?_) (fun hb18=>?_)
   ·
    refine QJ rfl rfl<|JS_mv rfl<|QJ rfl rfl<|JS_mv rfl<|QJ rfl rfl<|QA (QU rfl rfl rfl)<|QA (Qj rfl rfl rfl)<|JS_as rfl<|JS_nt<|QS ?_
    exact F_r1 rfl rfl (congrArg Value.bool (by unfold Fy;rw [hal];simp_all)) (fun F h9=>trivial)
   ·
    refine QN rfl rfl rfl<|QN rfl rfl rfl<|QN rfl rfl rfl<|QA (Qh rfl rfl rfl)<|JS_as rfl<|JS_nt<|QS ?_
    exact F_r1 rfl rfl (congrArg Value.bool (by unfold Fy;rw [hal];simp_all)) (fun F h9=>trivial)
  ·
   have h14:=bne_eq_false_iff_eq.1 hc
   refine QO<|QC<|J_sr<|JS_mv rfl<|QA (QU rfl rfl rfl)<|JS_mv rfl ?_
   refine Qn (t:=25) rfl (fun hb25=>?_) (fun hb25=>?_)
   ·
    refine QJ rfl rfl<|JS_mv rfl<|QJ rfl rfl<|JS_mv rfl<|QJ rfl rfl<|QH rfl (fun w F hF ⟨⟨hR,hP,hR2,hP2⟩,_⟩=>H4 hF (hR) (hP) (hR2) (hP2) (hln) (hln2) (hf) (hl)) (fun _=>QA (Qj rfl rfl rfl)<|JS_as rfl<|JS_nt<|QS ?_)
    exact F_r1 rfl rfl (congrArg Value.bool (by unfold Fy;rw [hal];simp_all)) (fun F h9=>trivial)
   ·
    refine QN rfl rfl rfl<|QN rfl rfl rfl<|QN rfl rfl rfl<|QA (Qh rfl rfl rfl)<|JS_as rfl<|JS_nt<|QS ?_
    exact F_r1 rfl rfl (congrArg Value.bool (by unfold Fy;rw [hal];simp_all)) (fun F h9=>trivial)
 ·
  have h10:¬ d=0:=fun e=>by rw [e] at hc;cases hc
  refine QO<|QC<|QG<|J_sr<|JS_mv rfl<|QA (QU rfl rfl rfl)<|QE<|QC ?_
  refine QP rfl (fun hc=>?_) (fun hc=>?_)
  ·
   have h14:=bne_iff_ne.1 hc
   refine J_sr<|JS_mv rfl<|QA (Qi rfl Xk)<|QA (QU rfl rfl rfl)<|JS_mv rfl ?_
   refine Qn (t:=18) rfl (fun hb18=>?_) (fun hb18=>?_)
   ·
    refine QJ rfl rfl<|JS_mv rfl<|QJ rfl rfl<|JS_mv rfl<|QJ rfl rfl<|QA (QU rfl rfl rfl)<|QA (Qj rfl rfl rfl)<|JS_as rfl<|JS_nt<|QS ?_
    exact F_r1 rfl rfl (congrArg Value.bool (by unfold Fy;rw [hal];simp_all)) (fun F h9=>trivial)
   ·
    refine QN rfl rfl rfl<|QN rfl rfl rfl<|QN rfl rfl rfl<|QA (Qh rfl rfl rfl)<|JS_as rfl<|JS_nt<|QS ?_
    exact F_r1 rfl rfl (congrArg Value.bool (by unfold Fy;rw [hal];simp_all)) (fun F h9=>trivial)
  ·
   have h14:=bne_eq_false_iff_eq.1 hc
   refine QO<|QC<|J_sr<|JS_mv rfl<|QA (QU rfl rfl rfl)<|JS_mv rfl ?_
   refine Qn (t:=25) rfl (fun hb25=>?_) (fun hb25=>?_)
   ·
    refine QJ rfl rfl<|JS_mv rfl<|QJ rfl rfl<|JS_mv rfl<|QJ rfl rfl<|QH rfl (fun w F hF ⟨hR,hP,hR2,hP2⟩=>H4 hF (hR) (hP) (hR2) (hP2) (hln) (hln2) (hf) (hl)) (fun _=>QA (Qj rfl rfl rfl)<|JS_as rfl<|JS_nt<|QS ?_)
    exact F_r1 rfl rfl (congrArg Value.bool (by unfold Fy;rw [hal];simp_all)) (fun F h9=>trivial)
   ·
    refine QN rfl rfl rfl<|QN rfl rfl rfl<|QN rfl rfl rfl<|QA (Qh rfl rfl rfl)<|JS_as rfl<|JS_nt<|QS ?_
    exact F_r1 rfl rfl (congrArg Value.bool (by unfold Fy;rw [hal];simp_all)) (fun F h9=>trivial)
end
section
open Go.RowKit Ig
def vv (p:Pt):Bool:=!(p.any fun x=>decide ((x.2.length:Int)>30)||decide ((x.1.length:Int)>20))
def zX (p:Pt):Bool:=if(decide ((p.length:Int)>8)&&decide ((p.length:Int)≤64))||decide ((p.length:Int)>70) then false else vv p
end
section
open Go.RowKit Ig
section
variable [Dr] [df:Df] {N:Nat} {m:Sl} {S:World→Prop} {ty:TypeId}
theorem j6 {yT:TypeId} {x y:Operand} {a b c d:List UInt8} (hx:ev m x=some (.agg #[tx a,tx b])) (hy:ev m y=some (.agg #[tx c,tx d])):Qt Tryz.prog N m S (.binOp .eql 24 x y yT) ty (.bool (decide (a=c)&&decide (b=d))):=fun ac w _ _ _ _ ha _=>by
 have h1:=equal_span w a b c d
 simp only [execOp,ha.ev hx,ha.ev hy,Sem.run_bind]
 have h2:(eqGuard .eql 24 x y (.agg #[tx a,tx b]) (.agg #[tx c,tx d])).run Tryz.prog w = .ok () w:=by
  simp [eqGuard,RQ]
 rw [h2]
 simp [binOp,h1]
end
end
section
open Go.RowKit Ig
def Ge (w:List UInt8×List UInt8):Int:=Qm [Wi w.1,Wi w.2]
def Fk (have_:List UInt8×List UInt8) (e bad:Int) (want:List UInt8×List UInt8):Bool :=
 if bad=0 then(if Ge want=0 then(e==0)&&(decide (have_.1=want.1)&&decide (have_.2=want.2)) else(have_.1==[])&&((have_.2==[])&&(e==Ge want))) else(have_.1==[])&&((have_.2==[])&&(e==bad))
theorem dt {w:World} {F:Gs} {a b:List UInt8×List UInt8} {e d:Int} (hF:Fits F w) (hl:b.1.length≤1000000∧b.2.length≤1000000):Qc Tryz.prog 26 [.agg #[tx a.1,tx a.2],.int .i64 e,.int .i64 d,.agg #[tx b.1,tx b.2]] w F (.bool (Fk a e d b)):=by
 refine QT.intro (G:=fun F=>True) Tryz.func26 rfl (by rfl) rfl rfl hF (fun F' hF'=>trivial)<|J_sr<|Q5 rfl (vs:=[_,_]) rfl (fun b4=>Q5 rfl (vs:=[_,_]) rfl (fun b7=>JS_as rfl<|JS_nt<|QG<|J_sr<|JS_mv rfl<|QA (QU rfl rfl rfl)<|QE<|QC ?_))
 refine QP rfl (fun hc=>?_) (fun hc=>?_)
 ·
  have h10:=eq_of_beq hc
  refine QB<|QA (QL (vs:=[_,_]) rfl Js .here (.here (.here .nil)) rfl)<|QH rfl (fun w F hF _=>C6 hF (hl)) (fun _=>JS_as rfl<|JS_nt<|QG<|J_sr<|JS_mv rfl<|QA (QU rfl rfl rfl)<|QE<|QC ?_)
  refine QP rfl (fun hc=>?_) (fun hc=>?_)
  ·
   have h14:=bne_iff_ne.1 hc
   refine J_sr<|QA (QI rfl Eb Jy)<|QA (Qo rfl Jy (.there .here) (.here .nil))<|QA (KY rfl rfl)<|JS_mv rfl ?_
   refine Qn (t:=18) rfl (fun hb18=>?_) (fun hb18=>?_)
   ·
    refine QJ rfl rfl<|QA (QI rfl Ea Jy)<|QJ rfl rfl<|QA (Qo rfl Jy (.there .here) (.skip (.here .nil)))<|QJ rfl rfl<|QA (KY rfl rfl)<|QA (Qj rfl rfl rfl)<|JS_mv rfl ?_
    refine Qn (t:=23) rfl (fun hb23=>?_) (fun hb23=>?_)
    ·
     refine QJ rfl rfl<|JS_mv rfl<|QJ rfl rfl<|JS_mv rfl<|QJ rfl rfl<|QA (QU rfl rfl rfl)<|QA (Qj rfl rfl rfl)<|JS_as rfl<|JS_nt<|QS ?_
     exact F_r1 rfl rfl (congrArg Value.bool (by unfold Fk Ge;simp_all)) (fun F h9=>trivial)
    ·
     refine QN rfl rfl rfl<|QN rfl rfl rfl<|QN rfl rfl rfl<|QA (Qh rfl rfl rfl)<|JS_as rfl<|JS_nt<|QS ?_
     exact F_r1 rfl rfl (congrArg Value.bool (by unfold Fk Ge;simp_all)) (fun F h9=>trivial)
   ·
    refine QN rfl rfl rfl<|QN rfl rfl rfl<|QN rfl rfl rfl<|QA (Qh rfl rfl rfl)<|JS_mv rfl<|QN rfl rfl rfl<|QN rfl rfl rfl<|QN rfl rfl rfl<|QA (Qh rfl rfl rfl)<|JS_as rfl<|JS_nt<|QS ?_
    exact F_r1 rfl rfl (congrArg Value.bool (by unfold Fk Ge;simp_all)) (fun F h9=>trivial)
  ·
   have h14:=bne_eq_false_iff_eq.1 hc
   refine QO<|QC<|J_sr<|JS_mv rfl<|QA (QU rfl rfl rfl)<|JS_mv rfl ?_
   refine Qn (t:=30) rfl (fun hb30=>?_) (fun hb30=>?_)
   ·
    refine QJ rfl rfl<|QA (QL (vs:=[_,_]) rfl Js (.there .here) (.here (.here .nil)) rfl)<|QJ rfl rfl<|QA (QL (vs:=[_,_]) rfl Js .here (.here (.here .nil)) rfl)<|QJ rfl rfl<|QA (j6 rfl rfl)<|QA (Qj rfl rfl rfl)<|JS_as rfl<|JS_nt<|QS ?_
    exact F_r1 rfl rfl (congrArg Value.bool (by unfold Fk Ge;simp_all)) (fun F h9=>trivial)
   ·
    refine QN rfl rfl rfl<|QN rfl rfl rfl<|QN rfl rfl rfl<|QA (Qh rfl rfl rfl)<|JS_as rfl<|JS_nt<|QS ?_
    exact F_r1 rfl rfl (congrArg Value.bool (by unfold Fk Ge;simp_all)) (fun F h9=>trivial)
 ·
  have h10:¬ d=0:=fun e=>by rw [e] at hc;cases hc
  refine QO<|QC<|QG<|J_sr<|JS_mv rfl<|QA (QU rfl rfl rfl)<|QE<|QC ?_
  refine QP rfl (fun hc=>?_) (fun hc=>?_)
  ·
   have h14:=bne_iff_ne.1 hc
   refine J_sr<|QA (QI rfl Eb Jy)<|QA (Qo rfl Jy (.there .here) (.here .nil))<|QA (KY rfl rfl)<|JS_mv rfl ?_
   refine Qn (t:=18) rfl (fun hb18=>?_) (fun hb18=>?_)
   ·
    refine QJ rfl rfl<|QA (QI rfl Ea Jy)<|QJ rfl rfl<|QA (Qo rfl Jy (.there .here) (.skip (.here .nil)))<|QJ rfl rfl<|QA (KY rfl rfl)<|QA (Qj rfl rfl rfl)<|JS_mv rfl ?_
    refine Qn (t:=23) rfl (fun hb23=>?_) (fun hb23=>?_)
    ·
     refine QJ rfl rfl<|JS_mv rfl<|QJ rfl rfl<|JS_mv rfl<|QJ rfl rfl<|QA (QU rfl rfl rfl)<|QA (Qj rfl rfl rfl)<|JS_as rfl<|JS_nt<|QS ?_
     exact F_r1 rfl rfl (congrArg Value.bool (by unfold Fk Ge;simp_all)) (fun F _=>trivial)
    ·
     refine QN rfl rfl rfl<|QN rfl rfl rfl<|QN rfl rfl rfl<|QA (Qh rfl rfl rfl)<|JS_as rfl<|JS_nt<|QS ?_
     exact F_r1 rfl rfl (congrArg Value.bool (by unfold Fk Ge;simp_all)) (fun F _=>trivial)
   ·
    refine QN rfl rfl rfl<|QN rfl rfl rfl<|QN rfl rfl rfl<|QA (Qh rfl rfl rfl)<|JS_mv rfl<|QN rfl rfl rfl<|QN rfl rfl rfl<|QN rfl rfl rfl<|QA (Qh rfl rfl rfl)<|JS_as rfl<|JS_nt<|QS ?_
    exact F_r1 rfl rfl (congrArg Value.bool (by unfold Fk Ge;simp_all)) (fun F _=>trivial)
  ·
   have h14:=bne_eq_false_iff_eq.1 hc
   refine QO<|QC<|J_sr<|JS_mv rfl<|QA (QU rfl rfl rfl)<|JS_mv rfl ?_
   refine Qn (t:=30) rfl (fun hb30=>?_) (fun hb30=>?_)
   ·
    refine QJ rfl rfl<|QA (QL (vs:=[_,_]) rfl Js (.there .here) (.here (.here .nil)) rfl)<|QJ rfl rfl<|QA (QL (vs:=[_,_]) rfl Js .here (.here (.here .nil)) rfl)<|QJ rfl rfl<|QA (j6 rfl rfl)<|QA (Qj rfl rfl rfl)<|JS_as rfl<|JS_nt<|QS ?_
    exact F_r1 rfl rfl (congrArg Value.bool (by unfold Fk Ge;simp_all)) (fun F _=>trivial)
   ·
    refine QN rfl rfl rfl<|QN rfl rfl rfl<|QN rfl rfl rfl<|QA (Qh rfl rfl rfl)<|JS_as rfl<|JS_nt<|QS ?_
    exact F_r1 rfl rfl (congrArg Value.bool (by unfold Fk Ge;simp_all)) (fun F _=>trivial)
end
section
open Go.RowKit Ig
theorem gi (z:Int):CT (X0 z)=Lib.decDigits z.natAbs:=by
 have h:=jt ((z:Int):Rat)
 rw [pH,show((z:Int):Rat).num=z from by simp] at h
 unfold CT
 rw [h]
 unfold Nr
 by_cases h0:z<0
 ·rw [if_pos h0,if_pos (by decide),YI h0];rfl
 ·rw [if_neg h0,J3 (by omega),if_neg (by split<;>decide)]
theorem IG (x:Rat):Wi (Jg x)=if XP x=true then 4 else 0:=by
 have hn:decide (600<(CT (numOf (Jg x))).length)=BY x.num:=by
  have e:numOf (Jg x)=X0 x.num:=by
   unfold numOf
   by_cases h:x.den=1
   ·obtain ⟨h1,h2⟩:=RR h
    rw [h2,List.take_length,h1]
   ·exact(Hi h).2.2.1
  rw [e,gi]
  unfold BY
  exact decide_eq_decide.2 (Rx _)
 have hd:decide (600<(UU (Jg x)).length)=BY x.den:=by
  unfold UU BY
  by_cases h:x.den=1
  ·rw [if_pos ((RS x).2 h),h]
   have h1:¬ lim≤(((1:Nat):Int)).natAbs:=by
    exact Nat.not_le.2 (Nat.lt_of_le_of_lt Nat.one_le_two_pow A9)
   rw [decide_eq_false h1]
   simp
  ·rw [if_neg fun e=>h ((RS x).1 e),(Hi h).2.2.2]
   exact decide_eq_decide.2 (Rx _)
 unfold Wi XP
 rw [hn,hd]
theorem vF (x:Rat×Rat):Fk (V6 x).1 (V6 x).2 0 (Jg x.1,Jg x.2)=true:=by
 unfold Fk V6 Ge
 dsimp only
 rw [if_pos rfl,IG,IG]
 cases XP x.1<;>cases XP x.2<;>simp [Qm]
end
section
open Go.RowKit Ig
structure NmI (s:List UInt8) where
 i:Nat
 le:i≤s.length
 e:W7 0 s=W7 i (s.drop i)
end
section
open Go.RowKit Ig
structure TiI (g:Bool) (l:List Int) where
 k:Nat
 le:k≤l.length
 lo : -9223372036854775808≤We g (l.drop k)
 hi:We g (l.drop k)≤9223372036854775807
def pf (g:Bool) (d:Int):Int:=if g=true then -d else d
def ct (o d:Int):Bool:=(decide (o>9223372036)||decide (o < -9223372036))||(decide (o=9223372036)&&decide (d>854775807))||(decide (o = -9223372036)&&decide (d < -854775808))
theorem pL {l:List Int} {k:Nat} (h:k<l.length):Qb l k∈l:=by rw [X7 h];exact List.getElem_mem h
theorem jH {l:List Int} {k:Nat} (h0:0<k) (h:k≤l.length):dv B9 (l.drop (k - 1))=Qb l (k - 1)+B9*dv B9 (l.drop k):=by
 have hk:k - 1<l.length:=by omega
 rw [List.drop_eq_getElem_cons hk,show k - 1+1=k by omega,dv,X7 hk]
theorem DG.drop {l:List Int} (hd:DG B9 l) (k:Nat):DG B9 (l.drop k):=fun x hx=>hd x (List.mem_of_mem_drop hx)
theorem ju {g:Bool} {l:List Int} {k:Nat} (h0:0<k) (h:k≤l.length):We g (l.drop (k - 1))=We g (l.drop k)*1000000000+pf g (Qb l (k - 1)):=by
 unfold We pf
 rw [jH h0 h]
 unfold B9
 cases g<;>simp<;>omega
theorem k6 {g:Bool} {l:List Int} {k:Nat} (hd:DG B9 l) (h0:0<k) (h:k≤l.length) (hb:ct (We g (l.drop k)) (pf g (Qb l (k - 1)))=false):(-9223372036≤We g (l.drop k)∧We g (l.drop k)≤9223372036)∧-9223372036854775808≤We g (l.drop k)*1000000000+pf g (Qb l (k - 1))∧We g (l.drop k)*1000000000+pf g (Qb l (k - 1))≤9223372036854775807:=by
 have h2:0≤dv B9 (l.drop k):=Qu (by decide) (hd.drop k)
 have h3:=hd _ (pL (show k - 1<l.length by omega))
 unfold ct We pf at hb
 unfold We pf
 unfold B9 at *
 cases g
 ·simp at hb ⊢;omega
 ·simp at hb ⊢;omega
def TiI.next {g:Bool} {l:List Int} (i:TiI g l) (hd:DG B9 l) (h0:0<i.k) (hb:ct (We g (l.drop i.k)) (pf g (Qb l (i.k - 1)))=false):TiI g l:=⟨i.k - 1,by have:=i.le;omega,by
  rw [ju h0 i.le];exact(k6 hd h0 i.le hb).2.1,by
  rw [ju h0 i.le];exact(k6 hd h0 i.le hb).2.2⟩
end
section
open Go.RowKit Ig
def uZ (c:UInt8):Bool:=c==47||c==46
structure PtI (s:List UInt8) where
 i:Nat
 le:i≤s.length
 z:(s.take i).all (fun c=>!uZ c)=true
theorem CO {s:List UInt8} {i:Nat} (h:i<s.length):s.take (i+1)=s.take i++[s[i]]:=by
 rw [List.take_succ,List.getElem?_eq_getElem h];rfl
def PtI.next {s:List UInt8} (j:PtI s) (h:j.i<s.length) (e:uZ s[j.i]=false):PtI s:=⟨j.i+1,h,by rw [CO h,List.all_append,j.z];simp [e]⟩
end
section
open Go.RowKit Ig
def cS (t:List UInt8):Nat:=ahead uZ t
def cW (t:List UInt8):Bool:=decide (cS t<t.length)&&el t (cS t)==46
end
section
open Go.RowKit Ig
section
variable {w:World} {F:Gs}
theorem kB {p:(List UInt8×List UInt8)×Int} {r:Rat×Rat} (hF:Fits F w) (hp:p=V6 r) (hr:JO r.1≤400000∧JO r.2≤400000):Qc Tryz.prog 26 [.agg #[tx p.1.1,tx p.1.2],.int .i64 p.2,.int .i64 0,.agg #[tx (Jg r.1),tx (Jg r.2)]] w F (.bool true):=by
 rw [hp]
 have h:=dt (a:=(V6 r).1) (b:=(Jg r.1,Jg r.2)) (e:=(V6 r).2) (d:=0) hF ⟨by have:=Gd r.1;show(Jg r.1).length≤_;omega,by have:=Gd r.2;show(Jg r.2).length≤_;omega⟩
 rw [vF] at h
 exact h
variable {a b:List UInt8}
end
end
section
open Go.RowKit Ig
theorem pO (x y:Rat):DY x y≤0↔x≤y:=by
 unfold DY
 by_cases h:x<y
 ·rw [if_pos h];exact⟨fun _=>Rat.le_of_lt h,fun _=>by decide⟩
 ·rw [if_neg h]
  by_cases e:x=y
  ·rw [if_pos e,e];exact⟨fun _=>Rat.le_refl,fun _=>by decide⟩
  ·rw [if_neg e];refine⟨fun k=>absurd k (by decide),fun k=>absurd (Rat.lt_of_le_of_ne k e) h⟩
end
section
open Go.RowKit Ig
def Ch (a:List UInt8×List UInt8):Prop:=XD a.1 a.2=0
def vS (a:List UInt8×List UInt8):Rat×Rat:=(Jk a.1,Jk a.2)
theorem Ch.v {a:List UInt8×List UInt8} (h:Ch a):cq (vS a) = .agg #[tx a.1,tx a.2]:=by
 obtain ⟨h1,h2,_⟩:=Yv h
 show Value.agg #[tx (Jg (Jk a.1)),tx (Jg (Jk a.2))]=_
 rw [← (ZO h1).1,← (ZO h2).1]
theorem Ch.sz {a:List UInt8×List UInt8} (h:Ch a):uB 2400 (vS a):=by
 obtain ⟨h1,h2,_⟩:=Yv h
 exact⟨XR h1,XR h2⟩
theorem Ch.le {a:List UInt8×List UInt8} (h:Ch a):(vS a).1≤(vS a).2:=by
 obtain ⟨_,_,h3⟩:=Yv h
 exact(pO _ _).1 (Int.not_lt.1 h3)
theorem CX (u:Nat) {k:Nat} (hk:0<k) (h:(Lib.decDigits u).length≤k):sz (u:Int)≤4*k:=by
 rw [Lib.decDigits_length] at h
 rw [Xv,Int.natAbs_natCast]
 have h1:¬ 10^k≤u:=fun e=>by have:=(Rt (u:=u) hk).2 e;omega
 have h2:10^k≤16^k:=Nat.pow_le_pow_left (by decide) _
 have h3:(16:Nat)^k=2^(4*k):=by rw [Nat.pow_mul]
 rw [← h3]
 exact Nat.lt_of_lt_of_le (Nat.lt_of_not_le h1) h2
theorem yg (z:Int) {k:Nat} (hk:0<k) (h:(X0 z).length≤k):sz z≤4*k:=by
 have e:sz z=sz (z.natAbs:Int):=by unfold sz;simp
 rw [e]
 refine CX _ hk ?_
 rcases Int.lt_or_le z 0 with g | g
 ·rw [YI g,List.length_cons] at h;omega
 ·rwa [J3 g] at h
theorem dO (x:Rat) {k:Nat} (hk:0<k) (h:(Jg x).length≤k):JO x≤4*k:=by
 unfold JO
 unfold Jg at h
 split at h
 ·rename_i hd
  rw [hd]
  exact Nat.max_le.2 ⟨yg _ hk h,Nat.le_trans (show sz ((1:Nat):Int)≤1 by decide) (by omega)⟩
 ·rw [List.length_append,List.length_cons] at h
  exact Nat.max_le.2 ⟨yg _ hk (by omega),CX _ hk (by omega)⟩
theorem Lc {s:List UInt8} (h:Ja s=0) {k:Nat} (hk:0<k) (hl:s.length≤k):JO (Jk s)≤4*k :=
 dO _ hk (by rw [← (ZO h).1];exact hl)
theorem uB.le {a:Rat×Rat} {k k':Nat} (h:uB k a) (hk:k≤k'):uB k' a:=⟨Nat.le_trans h.1 hk,Nat.le_trans h.2 hk⟩
section
variable {w:World} {F:Gs} {a b:List UInt8×List UInt8}
theorem uD {p:(List UInt8×List UInt8)×Int} {r:Rat×Rat} (hF:Fits F w) (hp:p=V6 r) (hr:JO r.1≤400000∧JO r.2≤400000):Qc Tryz.prog 26 [.agg #[tx p.1.1,tx p.1.2],.int .i64 p.2,.int .i64 0,cq r] w F (.bool true):=kB hF hp hr
def QAS (a:List UInt8×List UInt8) (n:Int):List UInt8×List UInt8:=if Qm [XD a.1 a.2,Eu n]=0 then(Jg (Hk (vS a) n).1,Jg (Hk (vS a) n).2) else([],[])
end
end
section
open Go.RowKit Ig
theorem cj {t:List UInt8} (hk:cS t<t.length):(((t[cS t]).toNat:Int)==46)=cW t:=by
 unfold cW;rw [decide_eq_true hk,ZA hk,Bool.true_and];exact Em rfl
structure PrJ (t:List UInt8) where
 j:Nat
 n:Ri
 d:Ri
 le:j≤(t.drop (cS t+1)).length
end
section
open Go.RowKit Ig
theorem dX {w:World} {F:Gs} {a:List UInt8} {d:Int} (hF:Fits F w) (hd:0≤d∧d≤1000):Qc Tryz.prog 126 [tx a,.int .i64 d] w F (.bool (P2 a d)):=by
 have hn:=Ce a
 refine QT.intro (G:=fun F=>True) Tryz.func126 rfl (by rfl) rfl rfl hF (fun F' hF'=>trivial)<|J_sr<|JS_as rfl<|JS_nt<|J_sr<|JS_mv rfl<|QA (XA rfl En)<|JS_mv rfl<|QA (Wo rfl rfl (by omega))<|QA (Qp rfl rfl (by omega))<|QA (QU rfl rfl rfl)<|JS_mv rfl ?_
 refine Qn (t:=11) rfl (fun hb11=>?_) (fun hb11=>?_)
 ·
  have hl:a.length≤1000000:=by have h1:=dec_t hb11;omega
  refine QJ rfl rfl<|JS_mv rfl<|QJ rfl rfl<|QH rfl (fun w F hF hT=>S7 hF (hl)) (fun _=>QJ rfl rfl<|QA (QU rfl rfl rfl)<|QA (Qj rfl rfl rfl)<|JS_mv rfl ?_)
  refine Qn (t:=16) rfl (fun hb16=>?_) (fun hb16=>?_)
  ·
   refine QJ rfl rfl<|JS_mv rfl<|QJ rfl rfl<|QH rfl (fun w F hF h9=>x6 hF (by omega)) (fun _=>QJ rfl rfl<|QH rfl (fun w F hF h9=>zC hF ) (fun _=>QJ rfl rfl<|QA (XA rfl En)<|QJ rfl rfl<|JS_mv rfl<|QJ rfl rfl<|QA (QU rfl rfl rfl)<|QA (Qj rfl rfl rfl)<|JS_mv rfl ?_))
   refine Qn (t:=24) rfl (fun hb24=>?_) (fun hb24=>?_)
   ·
    refine QJ rfl rfl<|JS_mv rfl<|QJ rfl rfl<|QH rfl (fun w F hF h9=>zA hF (by omega)) (fun _=>QJ rfl rfl<|QA (XA rfl En)<|QJ rfl rfl<|JS_mv rfl<|QJ rfl rfl<|QA (QU rfl rfl rfl)<|QA (Qj rfl rfl rfl)<|JS_as rfl<|JS_nt<|QS ?_)
    exact F_r1 rfl rfl ((congrArg Value.bool (by have h1:=dec_t hb11;simp [P2,h1];simp at hb16 hb24;simp [hb16,hb24]))) (fun F h9=>trivial)
   ·
    refine QN rfl rfl rfl<|QN rfl rfl rfl<|QN rfl rfl rfl<|QN rfl rfl rfl<|QN rfl rfl rfl<|QA (Qh rfl rfl rfl)<|JS_as rfl<|JS_nt<|QS ?_
    exact F_r1 rfl rfl ((congrArg Value.bool (by have h1:=dec_t hb11;simp [P2,h1];simp at hb16 hb24;simp [hb16];intro g;omega))) (fun F h9=>trivial)
  ·
   refine QN rfl rfl rfl<|QN rfl rfl rfl<|QN rfl rfl rfl<|QN rfl rfl rfl<|QN rfl rfl rfl<|QN rfl rfl rfl<|QA (Qh rfl rfl rfl)<|JS_mv rfl<|QN rfl rfl rfl<|QN rfl rfl rfl<|QN rfl rfl rfl<|QN rfl rfl rfl<|QN rfl rfl rfl<|QA (Qh rfl rfl rfl)<|JS_as rfl<|JS_nt<|QS ?_
   exact F_r1 rfl rfl ((congrArg Value.bool (by have h1:=dec_t hb11;simp at hb16;simp [P2,h1,hb16]))) (fun F h9=>trivial)
 ·
  refine QN rfl rfl rfl<|QN rfl rfl rfl<|QN rfl rfl rfl<|QA (Qh rfl rfl rfl)<|JS_mv rfl<|QN rfl rfl rfl<|QN rfl rfl rfl<|QN rfl rfl rfl<|QN rfl rfl rfl<|QN rfl rfl rfl<|QN rfl rfl rfl<|QA (Qh rfl rfl rfl)<|JS_mv rfl<|QN rfl rfl rfl<|QN rfl rfl rfl<|QN rfl rfl rfl<|QN rfl rfl rfl<|QN rfl rfl rfl<|QA (Qh rfl rfl rfl)<|JS_as rfl<|JS_nt<|QS ?_
  exact F_r1 rfl rfl ((congrArg Value.bool (by simp [P2,hb11]))) (fun F hT=>trivial)
end
section
open Go.RowKit Ig
theorem Cs (r:Rat):Jk (Jg r)=r:=by
 unfold Jk Jg
 by_cases h:r.den=1
 ·rw [if_pos h,RB (Gb _)]
  dsimp only
  rw [if_neg (by decide),YG]
  have:=Rat.mkRat_self r
  rw [h,Rat.mkRat_one] at this
  exact this
 ·rw [if_neg h,Bs (Gb _)]
  dsimp only
  rw [if_pos rfl,YG,XM]
  exact Rat.mkRat_self r
theorem yD {n:Nat} {l:List UInt8} (h:JB l≠n):¬ Lib.decDigits n=l:=fun e=>h (by rw [← e,XM])
theorem Cj {r:Rat} (h:XP r=false):Ja (Jg r)=0:=by
 unfold XP BY at h
 rw [Bool.or_eq_false_iff] at h
 have h1:=dec_f h.1
 have h2:=dec_f h.2
 have ln:¬ 600<(Lib.decDigits r.num.natAbs).length:=fun e=>h1 ((Rx _).1 e)
 have ld:¬ 600<(Lib.decDigits r.den).length:=fun e=>h2 (by rw [Int.natAbs_natCast];exact(Rx _).1 e)
 have hneg:(Lib.hasPrefix (X0 r.num) [45]&&Lib.decDigits r.num.natAbs==[48])=false:=by
  by_cases g:r.num<0
  ·have:¬ Lib.decDigits r.num.natAbs=[48]:=yD (by show 0≠_;omega)
   rw [beq_false_of_ne this,Bool.and_false]
  ·rw [J3 (by omega),Ka (Jb _)];rfl
 unfold Ja Jg
 by_cases hd:r.den=1
 ·rw [if_pos hd,RB (Gb _)]
  dsimp only
  unfold Wk UW
  rw [Vt,Ud,hneg,decide_eq_false ln]
  simp
 ·rw [if_neg hd,Bs (Gb _)]
  dsimp only
  unfold Wk UW
  have h0:¬ Lib.decDigits r.den=[48]:=yD (by show 0≠_;have:=r.den_nz;omega)
  have h9:¬ Lib.decDigits r.den=[49]:=yD (by show 1≠_;omega)
  have hg:Nat.gcd r.num.natAbs r.den=1:=r.reduced
  rw [Vt,Ud,Ud,hneg,decide_eq_false ln,decide_eq_false ld,XM,XM,hg,beq_false_of_ne h0,beq_false_of_ne h9]
  simp
theorem GC {r:Rat} {k:Nat} (h:JO r≤k) (hk:k≤1800):XP r=false:=by
 unfold XP BY
 have a:∀ z:Int,sz z≤k→decide (lim≤z.natAbs)=false:=fun z hz=>by
  have h1:=(Xv z 1800).1 (by omega)
  have h2:=A9
  refine decide_eq_false fun e=>?_
  exact absurd (Nat.lt_trans (Nat.lt_of_le_of_lt e h1) h2) (Nat.lt_irrefl _)
 rw [a _ (Nat.le_trans (Ji r) h),a _ (Nat.le_trans (Jd r) h)];rfl
end
section
open Go.RowKit Ig
section
variable {P:Program} {N:Nat} {m:Sl} {Y:World→Prop} {ty:TypeId}
theorem cP {T e:TypeId} {x:Operand} {lo:Option Operand} {vl:Option Value} {q:Option Addr} {n c sz:Nat} {g:Bool} (l:Nat) (hx:ev m x=some (.slice q n c)) (el:US m lo=some vl) (hl:vl=some (.int .i64 (l:Int))) (hT:H2 P T=some e) (hs:YA P e=some (g,sz)) (hln:l≤n) (hc:n≤c) :
  Qt P N m Y (.slice T x lo none none) ty (.slice (if c=l then q else q.map fun a=>a.add (l*sz)) (n - l) (c - l)):=fun a w _ _ _ _ ha _=>by
 subst hl
 have hlc:l≤c:=Nat.le_trans hln hc
 have hrun:(Instr.slice T (.slice q n c) (some (.int .i64 (l:Int))) none none).run P w = .ok (.slice (if c=l then q else q.map fun a=>a.add (l*sz)) (n - l) (c - l)) w:=by
  simp [Instr.slice,run_underlying (Q7 hT),Instr.sliceBounds,Instr.sliceBound,asIntOf,hc,hln,hlc,Zo hs]
 simp [execOp,ha.ev hx,ha.US el,Instr.sliceAt,run_underlying (Q7 hT),hrun]
end
theorem Q4.drop {F:Gs} {q:Option Addr} {n sz c:Nat} {cs:List Value} (h:Q4 F q n sz cs) (hc:n≤c) (l:Nat):Q4 F (if c=l then q else q.map fun a=>a.add (l*sz)) (n - l) sz (cs.drop (l*sz)):=by
 refine⟨by rw [List.length_drop,h.1,Nat.sub_mul],fun h0=>?_⟩
 obtain ⟨b,off,arr,T,e1,e2,e3⟩:=h.2 (by omega)
 subst e1
 rw [if_neg (by omega)]
 refine⟨b,off+l*sz,arr,T,by rw [Option.map_some,Ke],e2,fun j u hu=>?_⟩
 rw [Nat.add_assoc]
 rw [List.getElem?_drop] at hu
 exact e3 _ u hu
def ph (P:List Tm) (i:Nat) (k:List Int):Bool:=decide (i<P.length)&&decide ((el P i).2=k)
def plJ (P:List Tm) (i:Nat) (k:List Int):Nat:=if ph P i k=true then i+1 else i
def plS (P:List Tm) (i:Nat) (t:Tm):Rat:=if ph P i t.2=true then(el P i).1+t.1 else t.1
theorem MU (P:List Tm):(Xg P).length=P.length:=by simp [Xg]
theorem ye {ps:List Vr} {P:List Tm} (h:Jp ps=Xg P):ps.length=P.length:=by
 have:=congrArg List.length h
 rwa [VV,MU] at this
theorem kg (r:Rat):(Jg r==[48])=decide (r=0):=by
 rw [Bool.eq_iff_iff,beq_iff_eq,decide_eq_true_eq]
 constructor
 ·intro h
  have e:Jg (0:Rat)=[48]:=by decide +kernel
  have h1:=congrArg Jk (h.trans e.symm)
  rwa [Cs,Cs] at h1
 ·rintro rfl;decide +kernel
structure PlJ (ps:List Vr) (P:List Tm) (k:List Int) where
 i:Nat
 v:Value
 ob:List (Nat×Obj)
 le:i≤ps.length
 hr:Qz 122 2 v i ((ps.take i).flatMap KU) ob
 hb:∀ x∈P.take i,before x.2 k=true
structure PlE (ps:List Vr) (P:List Tm) (k:List Int) extends PlJ ps P k where
 stop:i<P.length→before (el P i).2 k=false
end
section
open Go.RowKit Ig
theorem ZR.cU {F:Gs} {s:Sr} {ts:List Vr} {L:List Tm} (h:ZR F s ts (Xg L)):s.n=L.length:=by
 rw [← h.2.2.2.2];exact ye h.2.2.1
structure NoJ (n:Nat) where
 i:Nat
 c:Yw
 le:i≤n
structure OtJ (g:List Tm→List Tm) (L:List Tm) where
 i:Nat
 v:Value
 ob:List (Nat×Obj)
 out:List Vr
 le:i≤L.length
 hr:Qz 122 2 v out.length (out.flatMap KU) ob
 ho:Jp out=Xg (g (L.take i))
 hl:out.length≤i
def dT (y:Rat) (l:List Tm):List Tm:=l.map fun t=>(y*t.1,t.2)
end
section
open Go.RowKit Ig
theorem xb:∀ {l:List Int},(∀ k∈l,0≤k)→Kd l≤12→l.sum≤Kd l∧0≤Kd l
 |[],_,_=>⟨Int.le_refl _,Int.le_refl _⟩
 |x::l,h,hc=>by
  have h0:=h x (List.mem_cons_self ..)
  have e:Kd (x::l)=(if 13<x then 13 else x)+Kd l:=rfl
  have h2:0≤Kd l:=(Ht l fun k hk=>h k (List.mem_cons_of_mem _ hk)).1
  rw [e] at hc ⊢
  have hx:¬ 13<x:=by intro g;rw [if_pos g] at hc;omega
  rw [if_neg hx] at hc ⊢
  have ih:=xb (l:=l) (fun k hk=>h k (List.mem_cons_of_mem _ hk)) (by omega)
  rw [List.sum_cons]
  omega
theorem cF {f:List UInt8} {l:List Int} {v:Int} (h:Zy f l v=0):(l.length:Int)=v+1∧(∀ k∈l,0≤k)∧l.sum≤12∧Ja f=0:=by
 unfold Zy at h
 split at h
 ·omega
 ·rename_i h1
  split at h
  ·omega
  ·rename_i h2
   have h3:=YS h
   have hn:∀ k∈l,0≤k:=fun k hk=>by
    rcases Int.lt_or_le k 0 with g | g
    ·exact absurd (List.any_eq_true.2 ⟨k,hk,decide_eq_true g⟩) h2
    ·exact g
   have hc:Kd l≤12:=by
    have:=h3.1
    split at this
    ·omega
    ·rename_i g;simpa using g
   have:=xb hn hc
   exact⟨by omega,hn,by omega,h3.2⟩
theorem dw {p:Pt} (h:vv p=true):∀ x∈p,x.2.length≤30∧x.1.length≤20:=fun x hx=>by
 unfold vv at h
 rw [Bool.not_eq_true'] at h
 rw [← Bool.not_eq_true,List.any_eq_true] at h
 by_cases g:x.2.length≤30∧x.1.length≤20
 ·exact g
 ·exact absurd ⟨x,hx,by simp;omega⟩ h
theorem vu {p:Pt} (h:zX p=true):(p.length≤8∨64<p.length∧p.length≤70)∧∀ x∈p,x.2.length≤30∧x.1.length≤20:=by
 unfold zX at h
 split at h
 ·cases h
 ·rename_i g
  refine⟨?_,dw h⟩
  simp at g
  omega
end
section
open Go.RowKit Ig
theorem pN {l:List Tm} (h:Canon l):l.any (fun t=>decide (t.2.sum>12))=decide (FJ l>12):=by
 cases l with
 |nil=>simp [FJ]
 |cons t l =>
  have hb:=(List.pairwise_cons.1 h.CY).1
  show(t::l).any _=decide (t.2.sum>12)
  rw [Bool.eq_iff_iff,List.any_eq_true,decide_eq_true_eq]
  constructor
  ·rintro ⟨x,hx,hd⟩
   rw [decide_eq_true_eq] at hd
   rcases List.mem_cons.1 hx with rfl | hx
   ·exact hd
   ·have:=hb x hx
    unfold before at this
    rw [Bool.or_eq_true,Bool.and_eq_true,decide_eq_true_eq,decide_eq_true_eq] at this
    omega
  ·intro hd
   exact⟨t,List.mem_cons_self,by rw [decide_eq_true_eq];exact hd⟩
theorem dV {l:List Tm} (h:Canon l):C5 (Xg l)=WZ l:=by
 have e1:(Xg l).any (fun x=>decide (x.2.sum>12))=decide (FJ l>12):=by
  rw [← pN h];unfold Xg;rw [List.any_map];rfl
 have e2:(Xg l).any (fun x=>Wi x.1 != 0)=V0 l:=by
  unfold Xg V0
  rw [List.any_map]
  refine congrArg (fun f=>l.any f) (funext fun t=>?_)
  show(Wi (Jg t.1) != 0)=XP t.1
  rw [IG];cases XP t.1<;>rfl
 unfold C5 WZ
 rw [e1,e2,MU]
 by_cases a:FJ l>12
 ·simp [a,Qm]
 ·by_cases b:(l.length:Int)>64
  ·simp [a,b,Qm]
  ·cases c:V0 l<;>simp [a,b,Qm]
theorem vY {l:List Tm} (h:Canon l):Fy (Gr l) (WZ l) 0 (Xg l)=true:=by
 unfold Fy
 rw [if_pos rfl,dV h]
 unfold Gr
 by_cases e:WZ l=0
 ·rw [if_pos e,if_pos e,e];simp
 ·rw [if_neg e,if_neg e];simp
theorem dh {d:Int} (h:d≠0) (w:Pt):Fy [] d d w=true:=by
 unfold Fy;rw [if_neg h];simp
theorem vO {l:List Tm} {x:List UInt8×List Int} (h:x∈Gr l):∃ t∈l,x=(Jg t.1,t.2):=by
 unfold Gr at h
 split at h
 ·unfold Xg at h;obtain ⟨t,ht,rfl⟩:=List.mem_map.1 h;exact⟨t,ht,rfl⟩
 ·cases h
theorem vP (l:List Tm):(Gr l).length≤l.length:=by
 unfold Gr;split
 ·rw [MU];exact Nat.le_refl _
 ·exact Nat.zero_le _
section
variable {w:World} {F:Gs}
theorem cG {c d:Yw} {l:List Tm} (hF:Fits F w) (hC:ZR F c.1 c.2 (Gr l)) (hD:ZR F d.1 d.2 (Xg l)) (hc:Canon l) (hp:∀ t∈l,PW t.2∧JO t.1≤100000000) (hl:l.length≤1000000):Qc Tryz.prog 64 [c.1.v,.int .i64 (WZ l),.int .i64 0,d.1.v] w F (.bool true):=by
 have lc:c.2.length≤1000000:=by have:=vP l;rw [← hC.2.2.1,VV] at this;omega
 have ld:d.2.length≤1000000:=by rw [ye hD.2.2.1];exact hl
 have h:=y5 (q:=c.1.q) (n:=c.1.n) (cap:=c.1.cap) (q2:=d.1.q) (n2:=d.1.n) (cap2:=d.1.cap) (a:=c.2) (b:=d.2) (e:=WZ l) (d:=0) hF hC.1 hC.2.1 hD.1 hD.2.1 hC.2.2.2.2 hD.2.2.2.2
  (fun t ht=>by
   have hm:(t.f,t.k)∈Gr l:=by rw [← hC.2.2.1];exact List.mem_map.2 ⟨t,ht,rfl⟩
   obtain ⟨x,hx,e⟩:=vO hm
   have:=(hp x hx).1.2
   have e2:t.k=x.2:=(Prod.mk.inj e).2
   rw [e2];omega)
  (fun t ht=>by
   have hm:(t.f,t.k)∈Xg l:=by rw [← hD.2.2.1];exact List.mem_map.2 ⟨t,ht,rfl⟩
   unfold Xg at hm
   obtain ⟨x,hx,e⟩:=List.mem_map.1 hm
   have e1:=(Prod.mk.inj e).1
   have e2:=(Prod.mk.inj e).2
   have:=hp x hx
   exact⟨by rw [← e1];have:=Gd x.1;omega,by rw [← e2];exact this.1⟩) lc ld
 rw [hC.2.2.1,hD.2.2.1,vY hc] at h
 exact h
theorem cT {c:Yw} {e d:Int} {q:Option Addr} {n cap:Nat} {ds:List Vr} {p:Pt} (hF:Fits F w) (hC:ZR F c.1 c.2 p) (h0:p=[]) (he:e=d) (hd:d≠0) (hR:Q4 F q n 2 (ds.flatMap KU)) (hA:Zl F ds) (hn:ds.length=n) (hf:∀ t∈ds,t.f.length≤1000000000∧PW t.k) (hl:n≤1000000):Qc Tryz.prog 64 [c.1.v,.int .i64 e,.int .i64 d,.slice q n cap] w F (.bool true):=by
 subst h0 he
 have hc2:c.2=[]:=by have:=hC.2.2.1;unfold Jp at this;exact List.map_eq_nil_iff.1 this
 have h:=y5 (q:=c.1.q) (n:=c.1.n) (cap:=c.1.cap) (q2:=q) (n2:=n) (cap2:=cap) (a:=c.2) (b:=ds) (e:=e) (d:=e) hF hC.1 hC.2.1 hR hA hC.2.2.2.2 hn (fun t ht=>by rw [hc2] at ht;cases ht) hf (by rw [hc2];decide) (by omega)
 rw [hC.2.2.1,dh hd] at h
 exact h
end
end
section
open Go.RowKit Ig
theorem jm {p:Pt} (h:∀ x∈p,Ja x.1=0):p=Xg (JA p):=by
 unfold Xg JA
 rw [List.map_map]
 induction p with
 |nil=>rfl
 |cons x p ih =>
  rw [List.map_cons,← ih fun y hy=>h y (List.mem_cons_of_mem _ hy)]
  show x::p=(Jg (Jk x.1),x.2)::p
  rw [← (ZO (h x List.mem_cons_self)).1]
end
section
open Go.RowKit Ig
def UX (F:Gs) (x:Yw) (b:Int) (l:List Tm):Prop:=ZR F x.1 x.2 (Jp x.2)∧(∀ t∈x.2,t.f.length≤1000000000∧PW t.k)∧x.1.n≤1000000∧(b=0→Jp x.2=Xg l)
theorem UX.le {F F':Gs} {x:Yw} {b:Int} {l:List Tm} (h:UX F x b l) (k:Gs.le F F'):UX F' x b l:=⟨h.1.le k,h.2⟩
theorem UX.none {F:Gs} {b:Int} {l:List Tm} (h:b≠0):UX F (⟨none,0,0⟩,[]) b l:=⟨ZR.nil F,fun _ h=>(by cases h),Nat.zero_le _,fun e=>absurd e h⟩
theorem UX.I9 {F:Gs} {x:Yw} {b b':Int} {l l':List Tm} (h:UX F x b l) (k:b'≠0):UX F x b' l':=⟨h.1,h.2.1,h.2.2.1,fun e=>absurd e k⟩
theorem UX.of {F:Gs} {x:Yw} {b:Int} {l:List Tm} (h:ZR F x.1 x.2 (Xg l)) (hp:∀ t∈l,PW t.2∧JO t.1≤100000000) (hl:l.length≤1000000):UX F x b l :=
 ⟨⟨h.1,h.2.1,rfl,h.2.2.2⟩,fun t ht=>by
  have hm:(t.f,t.k)∈Xg l:=by rw [← h.2.2.1];exact List.mem_map.2 ⟨t,ht,rfl⟩
  unfold Xg at hm
  obtain ⟨y,hy,e⟩:=List.mem_map.1 hm
  have e1:=(Prod.mk.inj e).1
  have e2:=(Prod.mk.inj e).2
  have:=hp y hy
  exact⟨by rw [← e1];have:=Gd y.1;omega,by rw [← e2];exact this.1⟩,by rw [h.cU];exact hl,fun _=>h.2.2.1⟩
theorem kC {y:Rat} {l:List Tm} (h:Canon l):Canon (YH y l)∧JQ (dT y l)=YH y l:=by
 unfold YH
 by_cases e:y=0
 ·rw [if_pos e,e]
  refine⟨Canon.nil,?_⟩
  have:Yz (dT 0 l) []:=by
   unfold dT
   clear h
   induction l with
   |nil=>exact Yz.refl _
   |cons t l ih =>
    rw [List.map_cons,Rat.zero_mul]
    exact(eqv_zero _ _).trans ih
  rw [W9 this];rfl
 ·rw [if_neg e]
  have hs:dT y l=l.map fun t=>(t.1*y,t.2):=List.map_congr_left fun t _=>by rw [Rat.mul_comm]
  have hC:Canon (l.map fun t=>((t.1*y,t.2):Tm)):=⟨List.pairwise_map.2 h.CY,fun t ht=>by
   obtain ⟨u,hu,rfl⟩:=List.mem_map.1 ht
   intro z
   rcases Rat.mul_eq_zero.1 z with z | z
   ·exact h.nz u hu z
   ·exact e z⟩
  exact⟨hC,by rw [hs];exact VL hC⟩
section
variable {a b:Yw} {c:List UInt8} {p:Pt} {v x:Int} {l:List Tm}
theorem ck (hv:ZM v=0):Vq [a,b] v=Qm [XF (Jp a.2) v,XF (Jp b.2) v]:=by unfold Vq;rw [if_pos hv];rfl
theorem pe (hv:ZM v=0) (h:Qm [XF (Jp a.2) v,XF (Jp b.2) v]=0):yv [a,b] v l=Gr l∧yw [a,b] v l=WZ l:=by
 unfold yv yw;rw [ck hv,if_pos h,if_pos h];exact⟨rfl,rfl⟩
end
structure CI (p:Pt) (v:Int):Prop where
 hv:0≤v∧v≤24
 ok:Yh p v
 len:p.length≤8
 txt:p=Xg (JA p)
 sz:∀ t∈JA p,JO t.1≤80
 wp:∀ t∈JA p,t.2.length=(v+1).toNat∧PW t.2
theorem CI.of {p:Pt} {v:Int} (hv:ZM v=0) (h:XF p v=0) (hl:zX p=true):CI p v:=by
 have ho:=KE h
 have hv2:=(Yd v).1 hv
 obtain ⟨h5,h6⟩:=vu hl
 have hck:∀ x∈p,Ja x.1=0:=fun x hx=>(Z8 (ho.term x hx)).2.2.2
 refine⟨hv2,ho,by have:=ho.len;omega,jm hck,fun t ht=>?_,fun t ht=>⟨by have:=ho.wide t ht;omega,ho.pw hv2.2 t ht⟩⟩
 unfold JA at ht
 obtain ⟨x,hx,rfl⟩:=List.mem_map.1 ht
 exact Lc (hck x hx) (k:=20) (by decide) (h6 x hx).2
theorem CI.cO {p:Pt} {v:Int} (h:CI p v):(JA p).length≤8:=by unfold JA;rw [List.length_map];exact h.len
theorem CI.ZV {p:Pt} {v:Int} (h:CI p v):YtknegjaeoffnbaaGreatDoor.ZV (JA p)≤648:=by
 have h1:=Hf h.sz
 have h2:=h.cO
 have:=Nat.mul_le_mul_right 81 h2
 omega
section
variable {w:World} {F:Gs} {q q2:Option Addr} {n cap n2 cap2:Nat} {ps qs:List Vr} {v:Int}
theorem CI.add {p r:Pt} (hp:CI p v) (hr:CI r v):(∀ t∈JA p++JA r,t.2.length=(v+1).toNat∧PW t.2)∧YtknegjaeoffnbaaGreatDoor.ZV (JA p++JA r)≤90000 :=
 ⟨fun t ht=>by
  rcases List.mem_append.1 ht with ht | ht
  ·exact hp.wp t ht
  ·exact hr.wp t ht,by rw [XV];have:=hp.ZV;have:=hr.ZV;omega⟩
theorem CI.der {p:Pt} {i:Nat} (hp:CI p v) (hi:i<(v+1).toNat):(∀ t∈YC i (JA p),t.2.length=(v+1).toNat∧PW t.2)∧YtknegjaeoffnbaaGreatDoor.ZV (YC i (JA p))≤90000:=by
 refine⟨fun t ht=>?_,?_⟩
 ·obtain ⟨u,hu,h0,rfl⟩:=D6 ht
  have:=hp.wp u hu
  exact⟨by show(u.2.set i _).length=_;rw [List.length_set];exact this.1,this.2.set h0⟩
 ·have h1:=Hf (UM (v:=i) (l:=JA p) fun t ht=>⟨Nat.le_trans (hp.sz t ht) (by decide),(hp.wp t ht).2,by rw [(hp.wp t ht).1];exact hi⟩)
  have h2:=hp.cO
  have h3:=EF i (JA p)
  have:=Nat.mul_le_mul_right 2501 (Nat.le_trans h3 h2)
  omega
end
end
section
open Go.RowKit Ig
def Vs (g:List Int→Rat):List Tm→Rat
 |[]=>0
 |t::l=>t.1*g t.2+Vs g l
theorem xI (g:List Int→Rat) (p q:List Tm):Vs g (p++q)=Vs g p+Vs g q:=by
 induction p with
 |nil=>simp [Vs,Rat.zero_add]
 |cons t p ih=>simp only [List.cons_append,Vs,ih,Rat.add_assoc]
theorem kG (g:List Int→Rat) (p:List Tm) (t:Tm):Vs g (ZK p t)=Vs g p+t.1*g t.2:=by
 induction p with
 |nil =>
  unfold ZK
  split
  ·rename_i h;rw [h];simp [Vs,Rat.zero_mul,Rat.add_zero]
  ·simp [Vs,Rat.zero_add,Rat.add_zero]
 |cons x p ih =>
  unfold ZK
  split
  ·simp only [Vs,ih,Rat.add_assoc]
  ·split
   ·rename_i h
    split
    ·rename_i h0
     simp only [Vs];rw [h]
     have:x.1*g t.2+t.1*g t.2=0:=by rw [← Rat.add_mul,h0,Rat.zero_mul]
     grind
    ·simp only [Vs];rw [h,Rat.add_mul];grind
   ·split
    ·rename_i h0;rw [h0,Rat.zero_mul,Rat.add_zero]
    ·simp only [Vs];grind
theorem Cg (g:List Int→Rat):∀ (l p:List Tm),Vs g (l.foldl ZK p)=Vs g p+Vs g l
 |[],p=>by simp [Vs,Rat.add_zero]
 |t::l,p=>by rw [List.foldl_cons,Cg g l,kG,Vs,Rat.add_assoc]
theorem IF (g:List Int→Rat) (l:List Tm):Vs g (JQ l)=Vs g l:=by
 rw [JQ,Cg,Vs,Rat.zero_add]
theorem vt (g:List Int→Rat) {p q:List Tm} (h:Yz p q):Vs g p=Vs g q:=by
 rw [← IF g p,W9 h,IF]
theorem vr (g:List Int→Rat) (f:Tm→Tm) (h:List Int→Rat) (hf:∀ t,(f t).1*g (f t).2=t.1*h t.2) (l:List Tm):Vs g (l.map f)=Vs h l:=by
 induction l with
 |nil=>rfl
 |cons t l ih=>rw [List.map_cons,Vs,Vs,ih,hf]
theorem gU (l:List Tm) (k:List Int):Jf l k=Vs (fun j=>if j=k then 1 else 0) l:=by
 induction l with
 |nil=>rfl
 |cons t l ih=>rw [Jf,Vs,ih];split<;>simp
theorem Cf {v:Nat} {l:List Tm} {x:Tm} (h:x∈YC v l):∃ t∈l,0<Qb t.2 v∧x=(t.1*((Qb t.2 v:Int):Rat),t.2.set v (Qb t.2 v - 1)):=by
 unfold YC at h
 obtain ⟨t,ht,h⟩:=List.mem_flatMap.1 h
 unfold SX at h
 split at h
 ·rename_i g;exact⟨t,ht,g,List.mem_singleton.1 h⟩
 ·cases h
theorem yx:∀ {a b:List Int},a.length=b.length→(∀ x∈a,0≤x)→(∀ x∈b,0≤x)→∀ x∈J0 a b,0≤x
 |[],[],_,_,_=>fun x hx=>by cases hx
 |[],_::_,h,_,_=>by simp at h
 |_::_,[],h,_,_=>by simp at h
 |x::a,y::b,h,ha,hb=>fun z hz=>by
  rcases List.mem_cons.1 (show z∈(x+y)::J0 a b from hz) with rfl | hz
  ·have:=ha x List.mem_cons_self
   have:=hb y List.mem_cons_self
   omega
  ·exact yx (by simpa using h) (fun x hx=>ha x (List.mem_cons_of_mem _ hx)) (fun x hx=>hb x (List.mem_cons_of_mem _ hx)) z hz
theorem I7:∀ (a:List Int),J0 a (List.replicate a.length 0)=a
 |[]=>rfl
 |x::a=>by
  show(x+0)::J0 a (List.replicate a.length 0)=_
  rw [I7 a,Int.add_zero]
def P7 (v:Nat) (t:Tm):Tm:=(t.1*((Qb t.2 v:Int):Rat),t.2.set v (Qb t.2 v - 1))
def Ns (v:Nat) (l:List Tm):List Tm:=l.map (P7 v)
def NN (l:List Tm):Prop:=∀ t∈l,∀ x∈t.2,0≤x
theorem NN.app {p q:List Tm} (h:NN p) (k:NN q):NN (p++q):=fun t ht=>by
 rcases List.mem_append.1 ht with ht | ht
 ·exact h t ht
 ·exact k t ht
theorem NN.tail {t:Tm} {p:List Tm} (h:NN (t::p)):NN p:=fun x hx=>h x (List.mem_cons_of_mem _ hx)
theorem jL {l:List Int} (h:∀ x∈l,0≤x) (v:Nat):0≤Qb l v:=by
 by_cases g:v<l.length
 ·rw [X7 g];exact h _ (List.getElem_mem g)
 ·rw [Gx (by omega)];exact Int.le_refl _
theorem gQ (v:Nat) {p q:List Tm} (h:Yz p q):Yz (Ns v p) (Ns v q):=fun k=>by
 have e:∀ l,Jf (Ns v l) k=Vs (fun j=>((Qb j v:Int):Rat)*(if j.set v (Qb j v - 1)=k then 1 else 0)) l:=fun l=>by
  rw [gU]
  exact vr _ (P7 v) _ (fun t=>by unfold P7;dsimp only;rw [Rat.mul_assoc]) l
 rw [e,e,vt _ h]
theorem O2 (v:Nat) {l:List Tm} (h:NN l):Yz (YC v l) (Ns v l):=by
 induction l with
 |nil=>exact Yz.refl _
 |cons t l ih =>
  have ih:=ih h.tail
  have e:YC v (t::l)=SX v t++YC v l:=rfl
  have e2:Ns v (t::l)=[P7 v t]++Ns v l:=rfl
  rw [e,e2]
  refine Yz.append ?_ ih
  have hd:=jL (h t List.mem_cons_self) v
  unfold SX P7
  split
  ·exact Yz.refl _
  ·rename_i g
   have h0:Qb t.2 v=0:=by omega
   rw [h0,show(((0:Int):Int):Rat)=0 from rfl,Rat.mul_zero]
   exact(eqv_zero _ []).symm
theorem gT (v:Nat) {p q:List Tm} (hp:NN p) (hq:NN q) (h:Yz p q):Yz (YC v p) (YC v q) :=
 (O2 v hp).trans ((gQ v h).trans (O2 v hq).symm)
theorem Xck (v:Nat) (p q:List Tm):YC v (p++q)=YC v p++YC v q:=by unfold YC;rw [List.flatMap_append]
theorem gR (v:Nat) (p q:List Tm):Ns v (p++q)=Ns v p++Ns v q:=by unfold Ns;rw [List.map_append]
theorem xf:∀ {a b:List Int} {v:Nat},v<a.length→a.length=b.length→Qb (J0 a b) v=Qb a v+Qb b v∧∀ z w,J0 (a.set v z) b=(J0 a b).set v (z+Qb b v)∧J0 a (b.set v w)=(J0 a b).set v (Qb a v+w)
 |[],_,_,h,_=>by simp at h
 |_::_,[],_,_,h=>by simp at h
 |x::a,y::b,0,_,_=>⟨rfl,fun z w=>⟨rfl,rfl⟩⟩
 |x::a,y::b,v+1,h,e=>by
  obtain ⟨h1,h2⟩:=xf (a:=a) (b:=b) (v:=v) (by simpa using h) (by simpa using e)
  have d:∀ (z:Int) (l:List Int),Qb (z::l) (v+1)=Qb l v:=fun z l=>by simp [Qb]
  refine⟨by show Qb ((x+y)::J0 a b) (v+1)=_;rw [d,d,d];exact h1,fun z w=>?_⟩
  rw [d,d]
  exact⟨by show(x+y)::J0 (a.set v z) b=((x+y)::J0 a b).set (v+1) _;rw [(h2 z w).1];rfl,by show(x+y)::J0 a (b.set v w)=((x+y)::J0 a b).set (v+1) _;rw [(h2 z w).2];rfl⟩
theorem gS {n v:Nat} {s t:Tm} (hv:v<n) (hs:s.2.length=n) (ht:t.2.length=n) (k:List Int) :
  Jf [P7 v (s.1*t.1,J0 s.2 t.2)] k=Jf [((P7 v s).1*t.1,J0 (P7 v s).2 t.2)] k+Jf [(s.1*(P7 v t).1,J0 s.2 (P7 v t).2)] k:=by
 obtain ⟨h1,h2⟩:=xf (a:=s.2) (b:=t.2) (v:=v) (by omega) (by omega)
 have h3:=h2 (Qb s.2 v - 1) (Qb t.2 v - 1)
 unfold P7
 dsimp only
 rw [h1,h3.1,h3.2,show Qb s.2 v - 1+Qb t.2 v=Qb s.2 v+Qb t.2 v - 1 by omega,show Qb s.2 v+(Qb t.2 v - 1)=Qb s.2 v+Qb t.2 v - 1 by omega]
 simp only [Jf]
 rw [Rat.intCast_add]
 split<;>grind
theorem yC {n v:Nat} {s:Tm} {q:List Tm} (hv:v<n) (hs:s.2.length=n) (hq:Zc n q):Yz (Ns v (Jn s q)) (Jn (P7 v s) q++Jn s (Ns v q)):=by
 induction q with
 |nil=>exact Yz.refl _
 |cons t q ih =>
  intro k
  have e1:=ih hq.tail k
  have e2:=gS hv hs (hq t List.mem_cons_self) k
  have a1:Ns v (Jn s (t::q))=[P7 v (s.1*t.1,J0 s.2 t.2)]++Ns v (Jn s q):=rfl
  have a2:Jn (P7 v s) (t::q)=[((P7 v s).1*t.1,J0 (P7 v s).2 t.2)]++Jn (P7 v s) q:=rfl
  have a3:Jn s (Ns v (t::q))=[(s.1*(P7 v t).1,J0 s.2 (P7 v t).2)]++Jn s (Ns v q):=rfl
  rw [a1,a2,a3]
  simp only [Zv] at e1 ⊢
  rw [e1,e2]
  grind
theorem kQ {n v:Nat} {p q:List Tm} (hv:v<n) (hp:Zc n p) (hq:Zc n q):Yz (Ns v (Q8 p q)) (Q8 (Ns v p) q++Q8 p (Ns v q)):=by
 induction p with
 |nil=>exact Yz.refl _
 |cons s p ih =>
  intro k
  have e1:=ih hp.tail k
  have e2:=yC hv (hp s List.mem_cons_self) hq k
  have a1:Ns v (s::p)=P7 v s::Ns v p:=rfl
  rw [a1,Xb,Xb,Xb,gR]
  simp only [Zv] at e1 e2 ⊢
  rw [e1,e2]
  grind
theorem Ci {n v:Nat} {p:List Tm} (h:Zc n p):Zc n (Ns v p):=fun t ht=>by
 obtain ⟨x,hx,rfl⟩:=List.mem_map.1 ht
 show(x.2.set v _).length=n
 rw [List.length_set];exact h x hx
theorem IY {n v:Nat} {p:List Tm} (h:Zc n p):Zc n (YC v p):=fun t ht=>by
 obtain ⟨x,hx,_,rfl⟩:=Cf ht
 show(x.2.set v _).length=n
 rw [List.length_set];exact h x hx
theorem pM {v:Nat} {p:List Tm} (h:NN p):NN (YC v p):=fun t ht y hy=>by
 obtain ⟨x,hx,h0,rfl⟩:=Cf ht
 rcases List.mem_or_eq_of_mem_set hy with hy | rfl
 ·exact h x hx y hy
 ·omega
theorem kA {n:Nat} {s:Tm} {q:List Tm} (hs:s.2.length=n) (ns:∀ x∈s.2,0≤x) (hq:Zc n q) (nq:NN q):NN (Jn s q):=fun t ht=>by
 obtain ⟨u,hu,rfl⟩:=List.mem_map.1 ht
 exact yx (by rw [hs,hq u hu]) ns (nq u hu)
theorem j7 {n:Nat} {p q:List Tm} (hp:Zc n p) (np:NN p) (hq:Zc n q) (nq:NN q):NN (Q8 p q):=fun t ht=>by
 obtain ⟨s,hs,ht⟩:=List.mem_flatMap.1 ht
 exact kA (hp s hs) (np s hs) hq nq t ht
theorem cI {n v:Nat} {p q:List Tm} (hv:v<n) (hp:Zc n p) (hq:Zc n q) (np:NN p) (nq:NN q):Yz (YC v (Q8 p q)) (Q8 (YC v p) q++Q8 p (YC v q)):=by
 refine(O2 v (j7 hp np hq nq)).trans ((kQ hv hp hq).trans ?_)
 refine Yz.append ?_ ?_
 ·exact Yz.prod (Ci hp) (IY hp) hq hq (O2 v np).symm (Yz.refl _)
 ·exact Yz.prod hp hp (Ci hq) (IY hq) (Yz.refl _) (O2 v nq).symm
structure WN (n:Nat) (p:List Tm):Prop where
 w:Zc n p
 nn:NN p
def WP (n:Nat):={p:List Tm // WN n p}
instance wpS (n:Nat):Setoid (WP n):=⟨fun p q=>Yz p.1 q.1,⟨fun _=>Yz.refl _,fun h=>Yz.symm h,fun h k=>Yz.trans h k⟩⟩
def Pq (n:Nat):=Quotient (wpS n)
section
variable {n:Nat}
def Pq.mk (p:List Tm) (h:WN n p):Pq n:=Quotient.mk _ ⟨p,h⟩
theorem Pq.eq {p q:List Tm} {h:WN n p} {k:WN n q} (e:Yz p q):Pq.mk p h=Pq.mk q k:=Quotient.sound e
theorem Pq.eqv {p q:List Tm} {h:WN n p} {k:WN n q} (e:Pq.mk p h=Pq.mk q k):Yz p q:=Quotient.exact e
theorem Pq.rep (x:Pq n):∃ p h,x=Pq.mk p h:=Quotient.inductionOn x fun a=>⟨a.1,a.2,rfl⟩
theorem WN.app {p q:List Tm} (h:WN n p) (k:WN n q):WN n (p++q):=⟨h.w.append k.w,h.nn.app k.nn⟩
theorem WN.prod {p q:List Tm} (h:WN n p) (k:WN n q):WN n (Q8 p q):=⟨h.w.Q8 k.w,j7 h.w h.nn k.w k.nn⟩
theorem WN.der {p:List Tm} (h:WN n p) (v:Nat):WN n (YC v p):=⟨IY h.w,pM h.nn⟩
theorem WN.norm {p:List Tm} (h:WN n p):WN n (JQ p):=⟨h.w.JQ,fun t ht=>by
 obtain ⟨y,hy,e⟩:=H5 ht
 rw [← e];exact h.nn y hy⟩
theorem WN.nil:WN n []:=⟨fun _ h=>(by cases h),fun _ h=>(by cases h)⟩
theorem WN.cons {t:Tm} {p:List Tm} (h:WN n (t::p)):WN n [t]∧WN n p :=
 ⟨⟨fun x hx=>by rw [List.mem_singleton.1 hx];exact h.w t List.mem_cons_self,fun x hx=>by rw [List.mem_singleton.1 hx];exact h.nn t List.mem_cons_self⟩,⟨h.w.tail,h.nn.tail⟩⟩
theorem WN.con (c:Rat):WN n [(c,List.replicate n 0)]:=⟨fun x hx=>by rw [List.mem_singleton.1 hx];simp,fun x hx y hy=>by
 rw [List.mem_singleton.1 hx] at hy;rw [List.eq_of_mem_replicate hy];exact Int.le_refl _⟩
instance :Add (Pq n):=⟨Quotient.lift₂ (fun p q=>Pq.mk (p.1++q.1) (p.2.app q.2)) (fun _ _ _ _ h k=>Pq.eq (Yz.append h k))⟩
instance :Mul (Pq n):=⟨Quotient.lift₂ (fun p q=>Pq.mk (Q8 p.1 q.1) (p.2.prod q.2)) (fun a b c d h k=>Pq.eq (Yz.prod a.2.w c.2.w b.2.w d.2.w h k))⟩
def Pq.D (v:Nat):Pq n→Pq n:=Quotient.lift (fun p=>Pq.mk (YC v p.1) (p.2.der v)) (fun a b h=>Pq.eq (gT v a.2.nn b.2.nn h))
def Pq.C (c:Rat):Pq n:=Pq.mk [(c,List.replicate n 0)] (WN.con c)
def Pq.O:Pq n:=Pq.mk [] WN.nil
theorem Xci {p q:List Tm} (h:WN n p) (k:WN n q):Pq.mk p h+Pq.mk q k=Pq.mk (p++q) (h.app k):=rfl
theorem Xap {p q:List Tm} (h:WN n p) (k:WN n q):Pq.mk p h*Pq.mk q k=Pq.mk (Q8 p q) (h.prod k):=rfl
theorem Xak {p:List Tm} (h:WN n p):Pq.mk (JQ p) h.norm=Pq.mk p h:=Pq.eq (eqv_norm p)
theorem Pq.add_comm (x y:Pq n):x+y=y+x:=by
 obtain ⟨p,h,rfl⟩:=Pq.rep x;obtain ⟨q,k,rfl⟩:=Pq.rep y
 exact Pq.eq (Yz.perm List.perm_append_comm)
theorem Pq.add_assoc (x y z:Pq n):x+y+z=x+(y+z):=by
 obtain ⟨p,h,rfl⟩:=Pq.rep x;obtain ⟨q,k,rfl⟩:=Pq.rep y;obtain ⟨r,l,rfl⟩:=Pq.rep z
 exact Pq.eq (by rw [List.append_assoc];exact Yz.refl _)
theorem Pq.mul_comm (x y:Pq n):x*y=y*x:=by
 obtain ⟨p,h,rfl⟩:=Pq.rep x;obtain ⟨q,k,rfl⟩:=Pq.rep y
 exact Pq.eq (Yz.perm (M1 p q))
theorem Pq.mul_assoc (x y z:Pq n):x*y*z=x*(y*z):=by
 obtain ⟨p,h,rfl⟩:=Pq.rep x;obtain ⟨q,k,rfl⟩:=Pq.rep y;obtain ⟨r,l,rfl⟩:=Pq.rep z
 exact Pq.eq (by rw [I4];exact Yz.refl _)
theorem Pq.add_mul (x y z:Pq n):(x+y)*z=x*z+y*z:=by
 obtain ⟨p,h,rfl⟩:=Pq.rep x;obtain ⟨q,k,rfl⟩:=Pq.rep y;obtain ⟨r,l,rfl⟩:=Pq.rep z
 exact Pq.eq (by rw [WG];exact Yz.refl _)
theorem Pq.mul_add (x y z:Pq n):x*(y+z)=x*y+x*z:=by
 rw [Pq.mul_comm,Pq.add_mul,Pq.mul_comm y,Pq.mul_comm z]
instance :Std.Associative (α:=Pq n) (·+·):=⟨Pq.add_assoc⟩
instance :Std.Commutative (α:=Pq n) (·+·):=⟨Pq.add_comm⟩
instance :Std.Associative (α:=Pq n) (·*·):=⟨Pq.mul_assoc⟩
instance :Std.Commutative (α:=Pq n) (·*·):=⟨Pq.mul_comm⟩
theorem Pq.Xaa (x:Pq n):x+Pq.O=x:=by
 obtain ⟨p,h,rfl⟩:=Pq.rep x;exact Pq.eq (by rw [List.append_nil];exact Yz.refl _)
theorem Pq.Xb0 (x:Pq n):Pq.O+x=x:=by rw [Pq.add_comm,Pq.Xaa]
theorem Pq.Xab (x:Pq n):Pq.O*x=Pq.O:=by
 obtain ⟨p,h,rfl⟩:=Pq.rep x;exact Pq.eq (Yz.refl _)
theorem Pq.Xct (x:Pq n):x*Pq.O=Pq.O:=by rw [Pq.mul_comm,Pq.Xab]
theorem Pq.Xc2:(Pq.C 0:Pq n)=Pq.O:=Pq.eq (eqv_zero _ [])
theorem Xc8 (k:Nat):J0 (List.replicate k 0) (List.replicate k 0)=List.replicate k 0:=by
 have:=I7 (List.replicate k (0:Int));rwa [List.length_replicate] at this
theorem Pq.Xdb (a b:Rat):(Pq.C a:Pq n)*Pq.C b=Pq.C (a*b):=Pq.eq (by
 show Yz [(a*b,J0 (List.replicate n 0) (List.replicate n 0))] _
 rw [Xc8];exact Yz.refl _)
theorem Pq.Xcv (a b:Rat):(Pq.C a:Pq n)+Pq.C b=Pq.C (a+b):=Pq.eq (eqv_join a b _ [])
theorem Pq.mul_one (x:Pq n):x*Pq.C 1=x:=by
 obtain ⟨p,h,rfl⟩:=Pq.rep x
 refine Pq.eq ?_
 have:Q8 p [((1:Rat),List.replicate n (0:Int))]=p:=by
  have hw:=h.w
  clear h
  induction p with
  |nil=>rfl
  |cons t p ih =>
   rw [Xb,ih hw.tail]
   have:=hw t List.mem_cons_self
   show [(t.1*1,J0 t.2 (List.replicate n 0))]++p=_
   rw [Rat.mul_one,← this,I7];rfl
 rw [this];exact Yz.refl _
theorem Pq.one_mul (x:Pq n):Pq.C 1*x=x:=by rw [Pq.mul_comm,Pq.mul_one]
theorem Pq.Xda (v:Nat) (x y:Pq n):Pq.D v (x+y)=Pq.D v x+Pq.D v y:=by
 obtain ⟨p,h,rfl⟩:=Pq.rep x;obtain ⟨q,k,rfl⟩:=Pq.rep y
 exact Pq.eq (by rw [Xck];exact Yz.refl _)
theorem Pq.Xco {v:Nat} (hv:v<n) (x y:Pq n):Pq.D v (x*y)=Pq.D v x*y+x*Pq.D v y:=by
 obtain ⟨p,h,rfl⟩:=Pq.rep x;obtain ⟨q,k,rfl⟩:=Pq.rep y
 exact Pq.eq (cI hv h.w k.w h.nn k.nn)
theorem Pq.D_O (v:Nat):Pq.D v (Pq.O:Pq n)=Pq.O:=Pq.eq (Yz.refl _)
theorem Xaz (n v:Nat):Qb (List.replicate n (0:Int)) v=0:=by
 by_cases g:v<n
 ·rw [X7 (by simpa using g)];simp
 ·exact Gx (by simp;omega)
theorem Pq.D_C (v:Nat) (c:Rat):Pq.D v (Pq.C c:Pq n)=Pq.O:=Pq.eq (by
 show Yz (SX v (c,List.replicate n 0)++[]) []
 unfold SX
 rw [if_neg (by rw [Xaz];omega)]
 exact Yz.refl _)
end
end
section
open Go.RowKit Ig
theorem Hx (p:List Tm):JA (Xg p)=p:=by
 unfold JA Xg
 rw [List.map_map]
 conv=>rhs;rw [← List.map_id p]
 refine List.map_congr_left fun t _=>?_
 show(Jk (Jg t.1),t.2)=t
 rw [Cs]
theorem jo {p:List Tm} {i:Nat} (h:i<p.length):el (Xg p) i=(Jg (el p i).1,(el p i).2):=by
 rw [ZA (by rw [MU];exact h),ZA h];simp [Xg]
theorem pS (l:List Int):Kd l≤l.sum:=by
 unfold Kd
 induction l with
 |nil=>exact Int.le_refl _
 |cons a l ih=>rw [List.map_cons,List.sum_cons,List.sum_cons];split<;>omega
def Bq (k:Nat) (p:List Tm):Prop:=Bd p k 64 1800 12
section
variable {k:Nat} {v:Int} {p:List Tm}
theorem Bq.of {c z:Nat} {d:Int} (h:Bd p k c z d) (hc:c≤64) (hz:z≤1800) (hd:d≤12):Bq k p:=h.mono hc hz hd
theorem Bq.po (h:Bq k p):∀ t∈p,XP t.1=false:=fun t ht=>GC (h.sz t ht) (Nat.le_refl _)
theorem Bq.pw1 (h:Bq k p) (hk:(k:Int)=v+1) (hv:0≤v∧v≤24):∀ t∈p,PW t.2:=h.pw (by omega) (by decide)
theorem Bq.CW (h:Bq k p) (hk:(k:Int)=v+1):XF (Xg p) v=0:=by
 have hln:=h.ln
 unfold XF
 rw [MU,if_neg (by rw [decide_eq_true_eq];omega)]
 have hz:∀ i,i<p.length→VX (Xg p) v i=0:=fun i hi=>by
  have hm:=JN hi
  obtain ⟨h1,h2⟩:=h.nn _ hm
  have e1:Zy (Jg (el p i).1) (el p i).2 v=0:=by
   unfold Zy
   rw [if_neg (by have:=h.wd _ hm;omega),if_neg,Cj (h.po _ hm),if_neg]
   ·rfl
   ·rw [decide_eq_true_eq];have:=pS (el p i).2;omega
   ·intro e
    obtain ⟨x,hx,hx2⟩:=List.any_eq_true.1 e
    rw [decide_eq_true_eq] at hx2
    have:=h1 x hx;omega
  have e2:(Jg (el p i).1==[48])=false:=by
   rw [kg];exact decide_eq_false (h.can.nz _ hm)
  unfold VX
  dsimp only
  rw [jo hi]
  dsimp only
  rw [e1,e2,if_neg]
  ·rfl
  ·rintro ⟨_,h0,hc⟩
   have hi1:i - 1<p.length:=by omega
   rw [jo hi1] at hc
   have hb:before (el p (i - 1)).2 (el p i).2=true:=by
    rw [ZA hi1,ZA hi]
    exact List.pairwise_iff_getElem.1 h.can.CY (i - 1) i hi1 hi (by omega)
   rw [Kx,decide_eq_true_eq] at hb
   dsimp only at hc
   omega
 have key:∀ (l:List Int),(∀ x∈l,x=0)→Qm l=0:=by
  intro l
  induction l with
  |nil=>intro _;rfl
  |cons a l ih =>
   intro hl
   unfold Qm
   rw [if_pos (hl a List.mem_cons_self)]
   exact ih fun x hx=>hl x (List.mem_cons_of_mem _ hx)
 refine key _ fun x hx=>?_
 obtain ⟨i,hi,rfl⟩:=List.mem_map.1 hx
 exact hz i (List.mem_range.1 hi)
theorem Bq.res (h:Bq k p):WZ p=0∧Gr p=Xg p:=by
 have h1:FJ p≤12:=by
  cases p with
  |nil=>exact(by decide:(0:Int)≤12)
  |cons t l=>exact(h.nn t List.mem_cons_self).2
 have h2:=h.ln
 have h3:V0 p=false:=by
  unfold V0
  rw [List.any_eq_false]
  intro t ht e
  rw [h.po t ht] at e;cases e
 have e:WZ p=0:=by
  unfold WZ
  rw [if_neg (by rw [decide_eq_true_eq];omega),if_neg (by rw [decide_eq_true_eq];omega),h3];rfl
 exact⟨e,by unfold Gr;rw [if_pos e]⟩
theorem Bq.txt (h:Bq k p):∀ x∈Xg p,x.1.length≤1000000∧x.2.length≤k:=fun x hx=>by
 unfold Xg at hx
 obtain ⟨t,ht,rfl⟩:=List.mem_map.1 hx
 have h1:=Gd t.1
 have h2:=h.sz t ht
 exact⟨by dsimp only;omega,by rw [h.wd t ht];exact Nat.le_refl _⟩
theorem Bq.I8 {F:Gs} {a:Yw} (h:Bq k p) (hk:k≤1000) (hA:ZR F a.1 a.2 (Xg p)):VB a :=
 ZR.I8 hA (fun x hx=>by have:=h.txt x hx;omega) (by rw [MU];have:=h.ln;omega)
end
section
variable {w:World} {F:Gs} {k:Nat} {v:Int} {p q:List Tm} {a b:Yw}
theorem yQ (hF:Fits F w) (hGl:JC F) (hA:ZR F a.1 a.2 (Xg p)) (hB:ZR F b.1 b.2 (Xg q)) (hk:(k:Int)=v+1) (hv:0≤v∧v≤24) (hp:Bq k p) (hq:Bq k q) (hr:Bq k (JQ (p++q))) :
  QT Tryz.prog 42 [a.1.v,b.1.v,.int .i64 v] w F (fun(c:Yw)=>.tuple #[c.1.v,.int .i64 0]) (fun c F=>ZR F c.1 c.2 (Xg (JQ (p++q)))):=by
 have h:=kY (a:=a) (b:=b) (v:=v) hF hGl (fun e he=>by
   rcases List.mem_cons.1 he with rfl | he
   ·exact⟨hA.1,hA.2.1⟩
   ·rw [List.mem_singleton.1 he];exact⟨hB.1,hB.2.1⟩) (fun e he=>by
   rcases List.mem_cons.1 he with rfl | he
   ·exact hp.I8 (by omega) hA
   ·rw [List.mem_singleton.1 he];exact hq.I8 (by omega) hB)
 have hc:=(Yd v).2 hv
 have e0:Qm [XF (Jp a.2) v,XF (Jp b.2) v]=0:=by rw [hA.2.2.1,hB.2.2.1,hp.CW hk,hq.CW hk];rfl
 rw [(pe hc e0).1,(pe hc e0).2,hA.2.2.1,hB.2.2.1,Hx,Hx,hr.res.1,hr.res.2] at h
 exact h
theorem LF (hF:Fits F w) (hA:ZR F a.1 a.2 (Xg p)) (hB:ZR F b.1 b.2 (Xg q)) (hk:k≤1000) (hp:Bq k p) (e:p=q):Qc Tryz.prog 43 [a.1.v,b.1.v] w F (.bool true):=by
 have ht:=hp.I8 hk hA
 have h:=H4 (q:=a.1.q) (n:=a.1.n) (cap:=a.1.cap) (q2:=b.1.q) (n2:=b.1.n) (cap2:=b.1.cap) hF hA.1 hA.2.1 hB.1 hB.2.1 hA.2.2.2.2 hB.2.2.2.2 (fun t ht2=>(ht.2.1 t ht2).2) ht.2.2
 rw [hA.2.2.1,hB.2.2.1,e,decide_eq_true rfl] at h
 exact h
theorem FI {q:Option Addr} {cap:Nat} {xs:List (List UInt8)} (hF:Fits F w) (hGl:JC F) (hA:ZR F a.1 a.2 (Xg p)) (hk:1≤k∧k≤25) (hp:Bq k p) (hS:Q4 F q k 1 (xs.map tx)) (hn:xs.length=k) (hx:∀ s∈xs,Ja s=0∧s.length≤1000000) (hl:XP (Zu (xs.map Jk) p)=false) :
  Qc Tryz.prog 80 [a.1.v,.slice q k cap] w F (.tuple #[tx (Jg (Zu (xs.map Jk) p)),.int .i64 0]):=by
 have h:=z6 (a:=a) (cap:=cap) hF hGl hA.1 hA.2.1 (hp.I8 (by omega) hA) hS hn (fun s hs=>(hx s hs).2) (by omega)
 have e1:DB (Xg p) xs.length=0:=by
  have z1:(if decide ((k:Int)=0)=true then(2:Int) else 0)=0:=if_neg (by rw [decide_eq_true_eq];omega)
  have z2:(if decide ((k:Int)>25)=true then(5:Int) else 0)=0:=if_neg (by rw [decide_eq_true_eq];omega)
  unfold DB
  rw [hn,z1,z2]
  exact(if_pos rfl).trans (hp.CW (v:=(k:Int) - 1) (by omega))
 have e2:Qm (xs.map Ja)=0:=by
  have key:∀ l:List (List UInt8),(∀ s∈l,Ja s=0)→Qm (l.map Ja)=0:=by
   intro l
   induction l with
   |nil=>intro _;rfl
   |cons s l ih=>intro hl;rw [List.map_cons];unfold Qm;rw [if_pos (hl s List.mem_cons_self)];exact ih fun x hx=>hl x (List.mem_cons_of_mem _ hx)
  exact key xs fun s hs=>(hx s hs).1
 have e3:ub (Jp a.2) xs=(Jg (Zu (xs.map Jk) p),0):=by
  rw [hA.2.2.1]
  unfold ub
  rw [if_pos e1,if_pos e2,Hx]
  unfold NP
  rw [hl];rfl
 rw [e3] at h
 exact h
end
theorem zz {p:Pt} {v a b:Int} {dg:Nat} (hk:0≤v) (h:ke p v a b dg=true):p=Xg (JA p)∧Bd (JA p) (v+1).toNat a.toNat (8*dg+8) b:=by
 unfold ke at h
 split at h
 ·cases h
 ·rename_i h0
  rw [not_or,Classical.not_not] at h0
  obtain ⟨h1,h2⟩:=h0
  have ho:=KE h2
  have hck:∀ x∈p,Ja x.1=0:=fun x hx=>(Z8 (ho.term x hx)).2.2.2
  have hfw:∀ x∈p,x.2.sum≤b∧P2 x.1 dg=true:=fun x hx=>by
   rw [Bool.not_eq_true',List.any_eq_false] at h
   have:=h x hx
   rw [Bool.not_eq_true,Bool.or_eq_false_iff,decide_eq_false_iff_not,Bool.not_eq_false'] at this
   exact⟨by omega,this.2⟩
  refine⟨jm hck,ho.can,fun t ht=>by have:=ho.wide t ht;omega,fun t ht=>?_,by unfold JA;rw [List.length_map];omega,fun t ht=>?_⟩
  ·unfold JA at ht
   obtain ⟨x,hx,rfl⟩:=List.mem_map.1 ht
   exact⟨fun y hy=>((Z8 (ho.term x hx)).2.1 y hy).1,(hfw x hx).1⟩
  ·unfold JA at ht
   obtain ⟨x,hx,rfl⟩:=List.mem_map.1 ht
   have hl:=(hfw x hx).2
   simp only [P2,Bool.and_eq_true,decide_eq_true_eq] at hl
   have:=Lc (hck x hx) (k:=2*dg+2) (by omega) (by omega)
   dsimp only;omega
end
section
open Go.RowKit Ig
theorem jv (x:Rat) (m:Nat):∀ n:Nat,x^(m+n)=x^m*x^n
 |0=>by rw [Nat.add_zero,Rat.pow_zero,Rat.mul_one]
 |n+1=>by rw [← Nat.add_assoc,Rat.pow_succ,Rat.pow_succ,jv x m n,Rat.mul_assoc]
theorem LV (c:Rat) (xs:List Rat) (ks:List Int):∀ n,BC c xs ks n=c*BC 1 xs ks n
 |0=>by show c=c*1;rw [Rat.mul_one]
 |n+1=>by rw [Hw,Hw,LV c xs ks n,Rat.mul_assoc]
def Oa (xs:List Rat) (ks:List Int):Rat:=BC 1 xs ks ks.length
theorem H6 (xs:List Rat) (l:List Tm):Zu xs l=Vs (Oa xs) l:=by
 have key:∀ (l:List Tm) (a:Rat),l.foldl (fun a t=>a+BC t.1 xs t.2 t.2.length) a=a+Vs (Oa xs) l:=by
  intro l
  induction l with
  |nil=>intro a;simp [Vs,Rat.add_zero]
  |cons t l ih=>intro a;rw [List.foldl_cons,ih,Vs,LV,Rat.add_assoc];rfl
 unfold Zu
 rw [key,Rat.zero_add]
theorem kP (xs:List Rat) (p q:List Tm):Zu xs (p++q)=Zu xs p+Zu xs q:=by rw [H6,H6,H6,xI]
theorem Xcc (xs:List Rat) {p q:List Tm} (h:Yz p q):Zu xs p=Zu xs q:=by rw [H6,H6,vt _ h]
theorem xY:∀ {a b:List Int} (j:Nat),a.length=b.length→Qb (J0 a b) j=Qb a j+Qb b j
 |[],[],j,_=>by simp [Qb,J0]
 |[],_::_,_,h=>by simp at h
 |_::_,[],_,h=>by simp at h
 |x::a,y::b,0,_=>rfl
 |x::a,y::b,j+1,h=>by
  have:=xY (a:=a) (b:=b) j (by simpa using h)
  have d:∀ (z:Int) (l:List Int),Qb (z::l) (j+1)=Qb l j:=fun z l=>by simp [Qb]
  show Qb ((x+y)::J0 a b) (j+1)=_
  rw [d,d,d];exact this
theorem CV (xs:List Rat) {a b:List Int} (h:a.length=b.length) (ha:∀ x∈a,0≤x) (hb:∀ x∈b,0≤x):∀ n,BC 1 xs (J0 a b) n=BC 1 xs a n*BC 1 xs b n
 |0=>by show(1:Rat)=1*1;rw [Rat.mul_one]
 |n+1=>by
  have h1:=jL ha n
  have h2:=jL hb n
  rw [Hw,Hw,Hw,CV xs h ha hb n,xY n h,show(Qb a n+Qb b n).toNat=(Qb a n).toNat+(Qb b n).toNat by omega,jv]
  grind
theorem vo (xs:List Rat) {a b:List Int} (h:a.length=b.length) (ha:∀ x∈a,0≤x) (hb:∀ x∈b,0≤x):Oa xs (J0 a b)=Oa xs a*Oa xs b:=by
 unfold Oa
 rw [CV xs h ha hb,Yx h,h]
theorem xV {n:Nat} (xs:List Rat) {s:Tm} {q:List Tm} (hs:s.2.length=n) (ns:∀ x∈s.2,0≤x) (hq:WN n q):Vs (Oa xs) (Jn s q)=s.1*Oa xs s.2*Vs (Oa xs) q:=by
 induction q with
 |nil=>simp [Jn,Vs,Rat.mul_zero]
 |cons t q ih =>
  have h1:=hq.w t List.mem_cons_self
  have h2:=hq.nn t List.mem_cons_self
  have ih:=ih hq.cons.2
  show s.1*t.1*Oa xs (J0 s.2 t.2)+Vs (Oa xs) (Jn s q)=_
  rw [ih,vo xs (by rw [hs,h1]) ns h2,Vs]
  grind
theorem z8 {n:Nat} (xs:List Rat) {p q:List Tm} (hp:WN n p) (hq:WN n q):Zu xs (Q8 p q)=Zu xs p*Zu xs q:=by
 rw [H6,H6,H6]
 induction p with
 |nil=>simp [Q8,Vs,Rat.zero_mul]
 |cons s p ih =>
  have ih:=ih hp.cons.2
  rw [Xb,xI,ih,xV xs (hp.w s List.mem_cons_self) (hp.nn s List.mem_cons_self) hq,Vs]
  grind
theorem yE (y:Rat) (l:List Tm) (k:List Int):Jf (l.map fun t=>((t.1*y,t.2):Tm)) k=Jf l k*y:=by
 induction l with
 |nil=>show(0:Rat)=0*y;rw [Rat.zero_mul]
 |cons t l ih =>
  rw [List.map_cons,Jf,Jf,ih,Rat.add_mul]
  congr 1
  split
  ·rfl
  ·rw [Rat.zero_mul]
theorem yy (l:List Tm):JQ (l++YH (-1) l)=[]:=by
 have:Yz (l++YH (-1) l) []:=fun k=>by
  rw [Zv]
  unfold YH
  rw [if_neg (by decide +kernel),yE]
  show _=(0:Rat)
  grind
 rw [W9 this];rfl
theorem y4 {xs:List Rat} {ks:List Int} {z:Nat} (hx:∀ x∈xs,JO x≤z) (hk:∀ k∈ks,0≤k) (hl:ks.length≤xs.length):∀ n,n≤ks.length→JO (BC 1 xs ks n)≤1+(ks.take n).sum.toNat*z+n
 |0,_=>by show JO (1:Rat)≤_;exact Nat.le_trans (by decide) (Nat.le_add_right 1 _)
 |n+1,hn=>by
  have ih:=y4 hx hk hl n (by omega)
  have h1:=XJ (BC 1 xs ks n) (el xs n^(Qb ks n).toNat)
  have h2:=Wm (el xs n) (Qb ks n).toNat
  have h3:=hx _ (JN (show n<xs.length by omega))
  have h4:(Qb ks n).toNat*JO (el xs n)≤(Qb ks n).toNat*z:=Nat.mul_le_mul_left _ h3
  have h5:=BH (l:=ks) (i:=n) (by omega)
  have h6:=jL hk n
  have h7:0≤(ks.take n).sum:=N5 fun x hx=>hk x (List.mem_of_mem_take hx)
  rw [Hw,h5,show((ks.take n).sum+Qb ks n).toNat=(ks.take n).sum.toNat+(Qb ks n).toNat by omega,Nat.add_mul]
  omega
end
section
open Go.RowKit Ig
theorem j1 {w:World} {F:Gs} {q:Option Addr} {n c:Nat} {m d:Int} {l:List (List UInt8)} (hF:Fits F w) (hR:Q4 F q n 1 (l.map tx)) (hl:l.length=n) (hd:0≤d∧d≤1000) (hn:n≤1000000):Qc Tryz.prog 95 [.slice q n c,.int .i64 m,.int .i64 d] w F (.bool (decide ((n:Int)≤m)&&l.all (fun s=>P2 s d))):=by
 have hln:=hl
 refine QT.intro (G:=fun F=>Q4 F q n 1 (l.map tx)) Tryz.func95 rfl (by rfl) rfl rfl hF (fun F' hF'=>hR.le hF')<|J_sr<|JS_as rfl<|JS_nt<|QG<|J_sr<|JS_mv rfl<|QA (Qi rfl Hz)<|JS_mv rfl<|QA (QU rfl rfl rfl)<|QE<|QC ?_
 refine QP rfl (fun hc=>?_) (fun hc=>?_)
 ·
  have hg:=dec_t hc
  refine J_sr<|JS_as rfl<|JS_nt<|QS ?_
  exact F_r1 rfl rfl (congrArg Value.bool (by have h1:decide ((n:Int)≤m)=false:=decide_eq_false (by omega);rw [h1];rfl)) (fun F hR=>trivial)
 ·
  have hg:=dec_f hc
  refine QO<|QC<|QG<|J_sr<|JS_as rfl<|JS_nt<|QX<|ZT (ι:=PJ l (fun s=>P2 s d)) [(0,_),(2,_)] (fun i=>[(7,.int .i64 ((i.i:Nat):Int))]) (fun i=>l.length - i.i) (PJ.start _ _) ⟨rfl,rfl,trivial⟩ ⟨rfl,trivial⟩ (fun i=>?_)
  simp only [List.cons_append,List.nil_append]
  refine QG<|J_sr<|JS_mv rfl<|JS_mv rfl<|QA (Qi rfl Hz)<|QA (QU rfl rfl rfl)<|QE<|QC ?_
  refine QP rfl (fun hc=>?_) (fun hc=>?_)
  ·
   have hi:i.i<l.length:=by have:=dec_t hc;omega
   refine QO<|QC<|QG<|QX<|J_sr<|JS_mv rfl<|JS_mv rfl<|QA (JK (n:=n) (i.i) (fun F hR=>hR) rfl rfl Hz Jy (by omega))<|QA (JM (n:=n) ((i.i)*1) (fun F hR=>hR) (by omega) rfl Jy (DR (f:=tx) (l:=l) (by omega)))<|JS_mv rfl<|QH rfl (fun w F hF hR=>dX hF hd) (fun _=>QA (Z0 rfl)<|QE<|QC ?_)
   refine QP rfl (fun hc=>?_) (fun hc=>?_)
   ·
    refine J_sr<|JS_as rfl<|JS_nt<|QS ?_
    repeat (first | refine JE ?_ | refine Q3 ?_)
    exact F_r1 rfl rfl (congrArg Value.bool (by rw [i.hit hi (by simpa using hc),Bool.and_false])) (fun F h9=>trivial)
   ·
    refine QO<|Qk<|QC<|QB<|JS_mv rfl<|QA (Qp rfl rfl (by omega))<|JS_as rfl<|QE ?_
    exact Ql (i.next hi (by simpa using hc)) (by show l.length - (i.i+1)<l.length - i.i;omega) ⟨rfl,rfl,rfl,trivial⟩ subl_r (fun F h=>h.1)
  ·
   have hi:l.length≤i.i:=by have:=dec_f hc;omega
   refine Qy ?_
   repeat (first | refine QZ ?_ | refine QV (by rfl) ?_)
   refine Qa<|QC<|J_sr<|JS_as rfl<|JS_nt<|QS ?_
   exact F_r1 rfl rfl (congrArg Value.bool (by rw [i.stop hi];have h1:decide ((n:Int)≤m)=true:=decide_eq_true (by omega);rw [h1];rfl)) (fun F hR=>trivial)
theorem qX {w:World} {F:Gs} {a:Yw} (hF:Fits F w) (hGl:JC F) (hA:ZR F a.1 a.2 (Jp a.2)) (hf:∀ t∈a.2,t.f.length≤9223372036854775807∧t.k.length≤9223372036854775807) (hl:a.1.n≤9223372036854775807):Qc Tryz.prog 103 [a.1.v] w F (.bool (ke (Jp a.2) 2 4 3 4)):=by
 have hR:=hA.1
 have hP:=hA.2.1
 have hln:=hA.2.2.2.2
 refine QT.intro (G:=fun F=>JC F∧ZR F a.1 a.2 (Jp a.2)) Tryz.func103 rfl (by rfl) rfl rfl hF (fun F' hF'=>⟨hGl.le hF',hA.le hF'⟩)<|J_sr<|JS_as rfl<|JS_nt<|J_sr<|JS_mv rfl<|QH rfl (fun w F hF h9=>j0 hF h9.1 h9.2.1 h9.2.2.1 hln hf (by omega) (by decide) (by decide)) (fun _=>JS_as rfl<|JS_nt<|QS ?_)
 exact F_r1 rfl rfl (rfl) (fun F h9=>trivial)
theorem Xad {w:World} {F:Gs} {a:Yw} (hF:Fits F w) (hGl:JC F) (hA:ZR F a.1 a.2 (Jp a.2)) (hf:∀ t∈a.2,t.f.length≤9223372036854775807∧t.k.length≤9223372036854775807) (hl:a.1.n≤9223372036854775807):Qc Tryz.prog 39 [a.1.v] w F (.bool (ke (Jp a.2) 2 3 2 4)):=by
 have hR:=hA.1
 have hP:=hA.2.1
 have hln:=hA.2.2.2.2
 refine QT.intro (G:=fun F=>JC F∧ZR F a.1 a.2 (Jp a.2)) Tryz.func39 rfl (by rfl) rfl rfl hF (fun F' hF'=>⟨hGl.le hF',hA.le hF'⟩)<|J_sr<|JS_as rfl<|JS_nt<|J_sr<|JS_mv rfl<|QH rfl (fun w F hF h9=>j0 hF h9.1 h9.2.1 h9.2.2.1 hln hf (by omega) (by decide) (by decide)) (fun _=>JS_as rfl<|JS_nt<|QS ?_)
 exact F_r1 rfl rfl (rfl) (fun F h9=>trivial)
end
section
open Go.RowKit Ig
section
variable {k:Nat} {p q:List Tm}
theorem Bd.wn {c z:Nat} {d:Int} (h:Bd p k c z d):WN k p:=⟨h.wd,fun t ht=>(h.nn t ht).1⟩
theorem Bq.wn (h:Bq k p):WN k p:=Bd.wn h
theorem Bd.mulR {c1 z1 c2 z2:Nat} {d1 d2:Int} (hp:Bd p k c1 z1 d1) (hq:Bd q k c2 z2 d2) (h1:1≤z1):Bd (JQ (Q8 p q)) k (c2*c1) (c2*(z2+z1+1)+1) (d2+d1):=by
 rw [W9 (Yz.perm (M1 p q))]
 exact hq.mul hp h1
theorem k8 (x:Rat):JO (x * -1)=JO x:=by rw [Rat.mul_neg,Rat.mul_one,Eo]
theorem Bd.neg {c z:Nat} {d:Int} (h:Bd p k c z d):Bd (YH (-1) p) k c z d:=by
 have hm:∀ t∈YH (-1) p,∃ y∈p,t=(y.1 * -1,y.2):=fun t ht=>DP ht
 refine⟨(kC h.can).1,fun t ht=>?_,fun t ht=>?_,Nat.le_trans (Ry _ _) h.ln,fun t ht=>?_⟩
 ·obtain ⟨y,hy,rfl⟩:=hm t ht;exact h.wd y hy
 ·obtain ⟨y,hy,rfl⟩:=hm t ht;exact h.nn y hy
 ·obtain ⟨y,hy,rfl⟩:=hm t ht;dsimp only;rw [k8];exact h.sz y hy
theorem Bq.nil (k:Nat):Bq k []:=⟨Canon.nil,fun _ h=>(by cases h),fun _ h=>(by cases h),Nat.zero_le _,fun _ h=>(by cases h)⟩
theorem Ox {c z zx:Nat} {d:Int} {xs:List Rat} (h:Bd p k c z d) (hx:∀ x∈xs,JO x≤zx) (hl:k≤xs.length) (hd:0≤d):JO (Zu xs p)≤1+c*(z+1+d.toNat*zx+k+1):=by
 have h1:∀ t∈p,JO (BC t.1 xs t.2 t.2.length)≤z+1+d.toNat*zx+k:=fun t ht=>by
  have hw:=h.wd t ht
  obtain ⟨hn,hs⟩:=h.nn t ht
  have h2:=y4 hx hn (by omega) t.2.length (Nat.le_refl _)
  rw [List.take_length] at h2
  have h3:=XJ t.1 (BC 1 xs t.2 t.2.length)
  have h4:=h.sz t ht
  have h5:t.2.sum.toNat*zx≤d.toNat*zx:=Nat.mul_le_mul_right _ (by omega)
  rw [LV]
  omega
 have h2:=jC (xs:=xs) (B:=z+1+d.toNat*zx+k) p 0 h1
 have h3:p.length*(z+1+d.toNat*zx+k+1)≤c*(z+1+d.toNat*zx+k+1):=Nat.mul_le_mul_right _ h.ln
 have h0:JO (0:Rat)=1:=by decide +kernel
 unfold Zu
 exact Nat.le_trans h2 (by rw [h0];omega)
end
theorem ZR.eq {F:Gs} {s:Sr} {ts:List Vr} {p q:Pt} (h:ZR F s ts p) (e:p=q):ZR F s ts q:=e ▸ h
theorem pK {s:List UInt8} {d:Nat} (h:P2 s d=true):Ja s=0∧s.length≤2*d+2∧JO (Jk s)≤8*d+8:=by
 simp only [P2,Bool.and_eq_true,decide_eq_true_eq,beq_iff_eq] at h
 have h1:s.length≤2*d+2:=by omega
 have:=Lc h.2.1 (k:=2*d+2) (by omega) h1
 exact⟨h.2.1,h1,by omega⟩
section
variable {P:Program} {N:Nat} {m:Sl} {S:World→Prop} {ty:TypeId}
theorem DK {T e:TypeId} {x:Operand} {b n sz:Nat} {g:Bool} (hx:ev m x=some (.pointer (some ⟨b,0,none⟩))) (hT:y8 P T=some (n,e)) (hs:YA P e=some (g,sz)):Qt P N m S (.slice T x none none none) ty (.slice (some ⟨b,0,none⟩) n n):=fun a w _ _ _ _ ha _=>by
 simp [execOp,ha.ev hx,Instr.sliceAt,Instr.sureAddr,Instr.sliceBounds,Instr.sliceBound,run_underlying (Cn hT),Zo hs,Ke]
end
theorem gZ:y8 Tryz.prog 53=some (3,52):=by kernel_rfl
theorem Cm:y8 Tryz.prog 109=some (3,22):=by kernel_rfl
end
section
open Go.RowKit Ig
section
variable {n:Nat}
def Pq.pw (x:Pq n):Nat→Pq n
 |0=>Pq.C 1
 |e+1=>Pq.pw x e*x
def Xa1 (W:Nat→Pq n) (ks:List Int):Nat→Pq n
 |0=>Pq.C 1
 |i+1=>Xa1 W ks i*Pq.pw (W i) (Qb ks i).toNat
def Xa0 (f:List Int→Pq n):List Tm→Pq n
 |[]=>Pq.O
 |t::l=>Pq.C t.1*f t.2+Xa0 f l
theorem Xbn (f:List Int→Pq n) (p q:List Tm):Xa0 f (p++q)=Xa0 f p+Xa0 f q:=by
 induction p with
 |nil=>exact(Pq.Xb0 _).symm
 |cons t p ih=>simp only [List.cons_append,Xa0,ih,Pq.add_assoc]
theorem Xca (f:List Int→Pq n) (p:List Tm) (t:Tm):Xa0 f (ZK p t)=Xa0 f p+Pq.C t.1*f t.2:=by
 induction p with
 |nil =>
  unfold ZK
  split
  ·rename_i h;rw [h,Pq.Xc2,Pq.Xab,Pq.Xaa]
  ·exact(Pq.Xaa _).trans (Pq.Xb0 _).symm
 |cons x p ih =>
  unfold ZK
  split
  ·simp only [Xa0,ih,Pq.add_assoc]
  ·split
   ·rename_i h
    have e:Pq.C x.1*f x.2+Pq.C t.1*f t.2=Pq.C (x.1+t.1)*f t.2:=by rw [h,← Pq.add_mul,Pq.Xcv]
    have e2:Pq.C x.1*f x.2+Xa0 f p+Pq.C t.1*f t.2=Pq.C x.1*f x.2+Pq.C t.1*f t.2+Xa0 f p:=by ac_rfl
    split
    ·rename_i h0
     rw [Xa0,e2,e,h0,Pq.Xc2,Pq.Xab,Pq.Xb0]
    ·rw [Xa0,Xa0,e2,e]
   ·split
    ·rename_i h0;rw [h0,Pq.Xc2,Pq.Xab,Pq.Xaa]
    ·rw [Xa0,Pq.add_comm]
theorem Xay (f:List Int→Pq n):∀ (l p:List Tm),Xa0 f (l.foldl ZK p)=Xa0 f p+Xa0 f l
 |[],p=>(Pq.Xaa _).symm
 |t::l,p=>by rw [List.foldl_cons,Xay f l,Xca,Xa0,Pq.add_assoc]
theorem Xac (f:List Int→Pq n) (l:List Tm):Xa0 f (JQ l)=Xa0 f l:=by
 rw [JQ,Xay];exact Pq.Xb0 _
theorem Xd6 (f:List Int→Pq n) {p q:List Tm} (h:Yz p q):Xa0 f p=Xa0 f q:=by
 rw [← Xac f p,W9 h,Xac]
def toQ (p:List Tm) (h:WN n p):Pq n:=Pq.mk p h
theorem Xcn {p q:List Tm} (hp:Canon p) (hq:Canon q) {h:WN n p} {k:WN n q} (e:Pq.mk p h=Pq.mk q k):p=q:=MZ hp hq (Pq.eqv e)
theorem WN.const (a:Rat):WN n (Yg a n):=(Bd.const a n).wn
theorem Xbm (a:Rat):Pq.mk (Yg a n) (WN.const a)=Pq.C a:=Pq.eq (by
 unfold Yg
 by_cases h:a=0
 ·rw [if_pos h,h];exact(eqv_zero _ []).symm
 ·rw [if_neg h];exact Yz.refl _)
theorem WN.pow {p:List Tm} (h:WN n p):∀ i,WN n (WH p n i)
 |0=>WN.const 1
 |i+1=>((WN.pow h i).prod h).norm
theorem Xch {p:List Tm} (h:WN n p):∀ i,Pq.mk (WH p n i) (h.pow i)=Pq.pw (Pq.mk p h) i
 |0=>Xbm 1
 |i+1=>by
  show Pq.mk (JQ _) _=_
  rw [Xak ((h.pow i).prod h),← Xap (h.pow i) h,Xch h i];rfl
theorem Xc3 {ws:List (List Tm)} (h:∀ w∈ws,WN n w) (i:Nat):WN n (el ws i):=by
 by_cases g:i<ws.length
 ·exact h _ (JN g)
 ·have:el ws i=[]:=by unfold el;rw [List.getD_eq_getElem?_getD,List.getElem?_eq_none (by omega)];rfl
  rw [this];exact WN.nil
def wsQ (ws:List (List Tm)) (h:∀ w∈ws,WN n w) (i:Nat):Pq n:=Pq.mk (el ws i) (Xc3 h i)
theorem WN.DZ {c:Rat} {ws:List (List Tm)} {ks:List Int} (h:∀ w∈ws,WN n w):∀ j,WN n (DZ c ws ks n j)
 |0=>WN.const c
 |j+1=>((WN.DZ h j).prod ((Xc3 h j).pow _)).norm
theorem Xc4 {c:Rat} {ws:List (List Tm)} {ks:List Int} (h:∀ w∈ws,WN n w):∀ j,Pq.mk (DZ c ws ks n j) (WN.DZ h j)=Pq.C c*Xa1 (wsQ ws h) ks j
 |0=>by rw [Xa1,Pq.mul_one];exact Xbm c
 |j+1=>by
  show Pq.mk (JQ _) _=_
  rw [Xak ((WN.DZ h j).prod ((Xc3 h j).pow _)),← Xap (WN.DZ h j) ((Xc3 h j).pow _),Xc4 h j,Xch,Xa1,Pq.mul_assoc];rfl
theorem Xbi {ws:List (List Tm)} (h:∀ w∈ws,WN n w):∀ (l a:List Tm),WN n a→WN n (l.foldl (fun a t=>JQ (a++DZ t.1 ws t.2 n t.2.length)) a)
 |[],_,ha=>ha
 |t::l,a,ha=>Xbi h l _ (ha.app (WN.DZ h _)).norm
theorem Xc5 {ws:List (List Tm)} (h:∀ w∈ws,WN n w):∀ (l a:List Tm) (ha:WN n a),Pq.mk (l.foldl (fun a t=>JQ (a++DZ t.1 ws t.2 n t.2.length)) a) (Xbi h l a ha)=Pq.mk a ha+Xa0 (fun ks=>Xa1 (wsQ ws h) ks ks.length) l
 |[],_,_=>(Pq.Xaa _).symm
 |t::l,a,ha=>by
  have:=Xc5 h l (JQ (a++DZ t.1 ws t.2 n t.2.length)) (ha.app (WN.DZ h _)).norm
  simp only [List.foldl_cons]
  rw [this,Xak (ha.app (WN.DZ h _)),← Xci ha (WN.DZ h _),Xc4,Xa0,Pq.add_assoc]
theorem WN.WS {ws:List (List Tm)} (h:∀ w∈ws,WN n w) (l:List Tm):WN n (WS ws n l):=Xbi h l [] WN.nil
theorem Xa9 {ws:List (List Tm)} (h:∀ w∈ws,WN n w) (l:List Tm):Pq.mk (WS ws n l) (WN.WS h l)=Xa0 (fun ks=>Xa1 (wsQ ws h) ks ks.length) l:=by
 have:=Xc5 h l [] WN.nil
 exact this.trans (Pq.Xb0 _)
theorem Xau (ws:List (List Tm)) (l:List Tm):Canon (WS ws n l):=by
 have key:∀ (l a:List Tm),Canon a→Canon (l.foldl (fun a t=>JQ (a++DZ t.1 ws t.2 n t.2.length)) a):=by
  intro l
  induction l with
  |nil=>intro a h;exact h
  |cons t l ih=>intro a _;exact ih _ (Zw _)
 exact key l [] Canon.nil
theorem Xcs {ws:List (List Tm)} (h:∀ w∈ws,WN n w) (a b:List Tm):WS ws n (JQ (a++b))=JQ (WS ws n a++WS ws n b):=by
 refine Xcn (Xau _ _) (Zw _) (h:=WN.WS h _) (k:=((WN.WS h a).app (WN.WS h b)).norm) ?_
 rw [Xa9 h,Xac,Xbn,Xak ((WN.WS h a).app (WN.WS h b)),← Xci (WN.WS h a) (WN.WS h b),Xa9 h,Xa9 h]
def Pq.ev (xs:List Rat):Pq n→Rat:=Quotient.lift (fun p=>Zu xs p.1) (fun _ _ h=>Xcc xs h)
theorem Xd7 (xs:List Rat) {p:List Tm} (h:WN n p):Pq.ev xs (Pq.mk p h)=Zu xs p:=rfl
theorem Xd1 (xs:List Rat) (x y:Pq n):Pq.ev xs (x+y)=Pq.ev xs x+Pq.ev xs y:=by
 obtain ⟨p,h,rfl⟩:=Pq.rep x;obtain ⟨q,k,rfl⟩:=Pq.rep y
 exact kP xs p q
theorem Xc0 (xs:List Rat) (x y:Pq n):Pq.ev xs (x*y)=Pq.ev xs x*Pq.ev xs y:=by
 obtain ⟨p,h,rfl⟩:=Pq.rep x;obtain ⟨q,k,rfl⟩:=Pq.rep y
 exact z8 xs h k
theorem Xdc (xs:List Rat):Pq.ev xs (Pq.O:Pq n)=0:=rfl
theorem Xan (xs:List Rat) (n:Nat):∀ m,BC 1 xs (List.replicate n 0) m=1
 |0=>rfl
 |m+1=>by rw [Hw,Xan xs n m,Xaz];show(1:Rat)*_^0=1;rw [Rat.pow_zero,Rat.mul_one]
theorem Xd2 (xs:List Rat) (c:Rat):Pq.ev xs (Pq.C c:Pq n)=c:=by
 show Zu xs [(c,List.replicate n 0)]=c
 rw [H6]
 show c*Oa xs (List.replicate n 0)+0=c
 unfold Oa
 rw [Xan,Rat.mul_one,Rat.add_zero]
theorem Xcu (xs:List Rat) (x:Pq n):∀ i,Pq.ev xs (Pq.pw x i)=Pq.ev xs x^i
 |0=>by rw [Rat.pow_zero];exact Xd2 xs 1
 |i+1=>by rw [Pq.pw,Xc0,Xcu xs x i,Rat.pow_succ]
theorem Xc6 (xs:List Rat) {W:Nat→Pq n} {ys:List Rat} (hy:∀ i,i<ys.length→el ys i=Pq.ev xs (W i)) (ks:List Int):∀ j,j≤ys.length→Pq.ev xs (Xa1 W ks j)=BC 1 ys ks j
 |0,_=>Xd2 xs 1
 |j+1,hj=>by rw [Xa1,Xc0,Xc6 xs hy ks j (by omega),Xcu,Hw,hy j (by omega)]
theorem Xd0 (xs:List Rat) {ws:List (List Tm)} (h:∀ w∈ws,WN n w) {l:List Tm} (hl:∀ t∈l,t.2.length≤ws.length):Zu xs (WS ws n l)=Zu (ws.map (Zu xs)) l:=by
 rw [← Xd7 xs (WN.WS h l),Xa9 h,H6]
 induction l with
 |nil=>exact Xdc xs
 |cons t l ih =>
  rw [Xa0,Xd1,Xc0,Xd2,Vs,ih fun u hu=>hl u (List.mem_cons_of_mem _ hu),Xc6 xs (ys:=ws.map (Zu xs)) (fun i hi=>by
   rw [List.length_map] at hi
   rw [ZA (by rw [List.length_map];exact hi),List.getElem_map,← ZA hi];rfl) t.2 t.2.length (by rw [List.length_map];exact hl t List.mem_cons_self)]
  rfl
theorem Xcq (v:Nat) (hv:v<n) (c:Rat) (x:Pq n):Pq.D v (Pq.C c*x)=Pq.C c*Pq.D v x:=by
 rw [Pq.Xco hv,Pq.D_C,Pq.Xab,Pq.Xb0]
theorem Xd9 {v:Nat} (hv:v<n) (x:Pq n):∀ e,Pq.D v (Pq.pw x (e+1))=Pq.C ((e+1:Nat):Rat)*Pq.pw x e*Pq.D v x
 |0=>by
  show Pq.D v (Pq.C 1*x)=_
  rw [Xcq v hv,show(((0+1:Nat):Nat):Rat)=1 from rfl]
  show _=Pq.C 1*Pq.C 1*Pq.D v x
  rw [Pq.one_mul,Pq.one_mul,Pq.one_mul]
 |e+1=>by
  show Pq.D v (Pq.pw x (e+1)*x)=_
  rw [Pq.Xco hv,Xd9 hv x e]
  have h1:(Pq.C ((e+1+1:Nat):Rat):Pq n)=Pq.C ((e+1:Nat):Rat)+Pq.C 1:=by
   rw [Pq.Xcv];congr 1
   exact Rat.natCast_add (e+1) 1
  show _=Pq.C ((e+1+1:Nat):Rat)*(Pq.pw x e*x)*Pq.D v x
  rw [h1,Pq.add_mul,Pq.add_mul,Pq.one_mul]
  show _+Pq.pw x e*x*Pq.D v x=_
  congr 1
  ac_rfl
def Xa3 (f:Nat→Pq n):Nat→Pq n
 |0=>Pq.O
 |m+1=>Xa3 f m+f m
theorem Xao (f:Nat→Pq n) (y:Pq n):∀ m,Xa3 f m*y=Xa3 (fun j=>f j*y) m
 |0=>Pq.Xab y
 |m+1=>by rw [Xa3,Pq.add_mul,Xao f y m];rfl
theorem Xa2 {f g:Nat→Pq n}:∀ m,(∀ j,j<m→f j=g j)→Xa3 f m=Xa3 g m
 |0,_=>rfl
 |m+1,h=>by rw [Xa3,Xa3,Xa2 m fun j hj=>h j (by omega),h m (by omega)]
theorem Xbj (f g:Nat→Pq n):∀ m,Xa3 f m+Xa3 g m=Xa3 (fun j=>f j+g j) m
 |0=>Pq.Xaa _
 |m+1=>by rw [Xa3,Xa3,Xa3,← Xbj f g m];ac_rfl
theorem Xce:∀ m,Xa3 (fun _=>(Pq.O:Pq n)) m=Pq.O
 |0=>rfl
 |m+1=>by rw [Xa3,Xce m,Pq.Xaa]
theorem Xbk (W:Nat→Pq n) {ks:List Int} {i:Nat} {z:Int} (hi:i<ks.length):∀ j,j≤i→Xa1 W (ks.set i z) j=Xa1 W ks j
 |0,_=>rfl
 |j+1,hj=>by rw [Xa1,Xa1,Xbk W hi j (by omega),Ve hi,if_neg (by omega)]
def dmQ (W:Nat→Pq n) (v:Nat) (ks:List Int) (m j:Nat):Pq n:=if 0<Qb ks j then Pq.C ((Qb ks j:Int):Rat)*Xa1 W (ks.set j (Qb ks j - 1)) m*Pq.D v (W j) else Pq.O
theorem Xcp {v:Nat} (hv:v<n) (W:Nat→Pq n) {ks:List Int} (hn:∀ x∈ks,0≤x):∀ m,m≤ks.length→Pq.D v (Xa1 W ks m)=Xa3 (dmQ W v ks m) m
 |0,_=>Pq.D_C v 1
 |m+1,hm=>by
  have hd:=jL hn m
  rw [Xa1,Pq.Xco hv,Xcp hv W hn m (by omega),Xao,Xa3]
  congr 1
  ·refine Xa2 m fun j hj=>?_
   unfold dmQ
   split
   ·rw [Xa1,Ve (show j<ks.length by omega),if_neg (show ¬ m=j by omega)]
    ac_rfl
   ·exact Pq.Xab _
  ·unfold dmQ
   by_cases g:0<Qb ks m
   ·rw [if_pos g,Xa1,Xbk W (show m<ks.length by omega) m (Nat.le_refl _),Ve (show m<ks.length by omega),if_pos rfl]
    obtain ⟨e,he⟩:∃ e:Nat,Qb ks m=((e+1:Nat):Int):=⟨(Qb ks m).toNat - 1,by omega⟩
    rw [he,show(((e+1:Nat):Int)).toNat=e+1 from rfl,Xd9 hv,show(((e+1:Nat):Int) - 1).toNat=e by omega]
    show _=Pq.C ((((e+1:Nat):Int)):Rat)*(Xa1 W ks m*Pq.pw (W m) e)*Pq.D v (W m)
    rw [Rat.intCast_natCast]
    ac_rfl
   ·rw [if_neg g,show(Qb ks m).toNat=0 by omega]
    show Xa1 W ks m*Pq.D v (Pq.C 1)=Pq.O
    rw [Pq.D_C,Pq.Xct]
end
end
section
open Go.RowKit Ig
section
variable {n:Nat}
theorem Xcb (W:Nat→Pq n) {v j m:Nat} {t:Tm} (ht:t.2.length=m):Xa0 (fun ks=>Xa1 W ks ks.length) (SX j t)*Pq.D v (W j)=Pq.C t.1*dmQ W v t.2 m j:=by
 unfold SX dmQ
 by_cases g:0<Qb t.2 j
 ·rw [if_pos g,if_pos g]
  show(Pq.C (t.1*((Qb t.2 j:Int):Rat))*Xa1 W (t.2.set j (Qb t.2 j - 1)) (t.2.set j (Qb t.2 j - 1)).length+Pq.O)*_=_
  rw [Pq.Xaa,List.length_set,ht,← Pq.Xdb]
  ac_rfl
 ·rw [if_neg g,if_neg g,Pq.Xct];exact Pq.Xab _
theorem Xcg (y:Pq n) (f:Nat→Pq n) (m:Nat):y*Xa3 f m=Xa3 (fun j=>y*f j) m:=by
 rw [Pq.mul_comm,Xao];exact Xa2 m fun j _=>Pq.mul_comm _ _
theorem Xd3 {v:Nat} (hv:v<n) (W:Nat→Pq n) {m:Nat}:∀ {l:List Tm},(∀ t∈l,t.2.length=m∧∀ x∈t.2,0≤x)→Pq.D v (Xa0 (fun ks=>Xa1 W ks ks.length) l)=Xa3 (fun j=>Xa0 (fun ks=>Xa1 W ks ks.length) (YC j l)*Pq.D v (W j)) m
 |[],_=>by
  show Pq.D v Pq.O=_
  rw [Pq.D_O]
  exact((Xa2 m fun j _=>Pq.Xab _).trans (Xce m)).symm
 |t::l,h=>by
  have ih:=Xd3 hv W (l:=l) fun u hu=>h u (List.mem_cons_of_mem _ hu)
  obtain ⟨h1,h2⟩:=h t List.mem_cons_self
  rw [Xa0,Pq.Xda,Xcq v hv,ih,h1,Xcp hv W h2 m (by omega),Xcg,Xbj]
  refine Xa2 m fun j _=>?_
  have e:YC j (t::l)=SX j t++YC j l:=rfl
  rw [e,Xbn,Pq.add_mul,Xcb W h1]
theorem Xcf:∀ (i:Int) (e:List Int),J0 (e.map fun x=>i*x) e=e.map fun x=>(i+1)*x
 |_,[]=>rfl
 |i,x::e=>by
  show(i*x+x)::J0 (e.map fun x=>i*x) e=((i+1)*x)::e.map fun x=>(i+1)*x
  rw [Xcf i e,Int.add_mul,Int.one_mul]
theorem WN.mono {e:List Int} (hl:e.length=n) (hn:∀ x∈e,0≤x) (c:Rat):WN n [(c,e)]:=⟨fun t ht=>by rw [List.mem_singleton.1 ht];exact hl,fun t ht=>by rw [List.mem_singleton.1 ht];exact hn⟩
theorem Xb2 {e:List Int} (hl:e.length=n) (hn:∀ x∈e,0≤x):∀ i:Nat,∃ h,Pq.pw (Pq.mk [(1,e)] (WN.mono hl hn 1)) i=Pq.mk [(1,e.map fun x=>(i:Int)*x)] h
 |0=>by
  have e0:(e.map fun x=>((0:Nat):Int)*x)=List.replicate n 0:=by
   rw [← hl]
   clear hl hn
   induction e with
   |nil=>rfl
   |cons x e ih =>
    rw [List.map_cons,ih,List.length_cons,List.replicate_succ]
    congr 1
    omega
  exact⟨by rw [e0];exact WN.con 1,Pq.eq (by rw [e0];exact Yz.refl _)⟩
 |i+1=>by
  obtain ⟨h,ih⟩:=Xb2 hl hn i
  have e1:Q8 [((1:Rat),e.map fun x=>(i:Int)*x)] [((1:Rat),e)]=[(1,e.map fun x=>((i+1:Nat):Int)*x)]:=by
   show [(((1:Rat)*1,J0 (e.map fun x=>(i:Int)*x) e):Tm)]=_
   rw [Rat.mul_one,Xcf];rfl
  have hw:WN n [((1:Rat),e.map fun x=>((i+1:Nat):Int)*x)]:=by rw [← e1];exact h.prod (WN.mono hl hn 1)
  refine⟨hw,?_⟩
  rw [Pq.pw,ih,Xap h (WN.mono hl hn 1)]
  exact Pq.eq (by rw [e1];exact Yz.refl _)
end
def Xa7:List (List Tm):=[[(1,[1,0,0])],[(1,[0,1,0])],[(1,[0,0,1])]]
theorem Xa8:∀ w∈Xa7,WN 3 w:=fun w hw=>by
 unfold Xa7 at hw
 simp only [List.mem_cons,List.not_mem_nil,or_false] at hw
 rcases hw with rfl | rfl | rfl
 ·exact WN.mono (e:=[1,0,0]) rfl (by decide) 1
 ·exact WN.mono (e:=[0,1,0]) rfl (by decide) 1
 ·exact WN.mono (e:=[0,0,1]) rfl (by decide) 1
theorem Xc9 {a b c:Int} (ha:0≤a) (hb:0≤b) (hc:0≤c):Xa1 (wsQ Xa7 Xa8) [a,b,c] 3=Pq.mk [(1,[a,b,c])] (WN.mono rfl (by simp;omega) 1):=by
 obtain ⟨h0,e0⟩:=Xb2 (n:=3) (e:=[1,0,0]) rfl (by decide) a.toNat
 obtain ⟨h1,e1⟩:=Xb2 (n:=3) (e:=[0,1,0]) rfl (by decide) b.toNat
 obtain ⟨h2,e2⟩:=Xb2 (n:=3) (e:=[0,0,1]) rfl (by decide) c.toNat
 show Pq.C 1*Pq.pw (Pq.mk [(1,[1,0,0])] _) a.toNat*Pq.pw (Pq.mk [(1,[0,1,0])] _) b.toNat*Pq.pw (Pq.mk [(1,[0,0,1])] _) c.toNat=_
 rw [e0,e1,e2,Pq.one_mul,Xap h0 h1,Xap (h0.prod h1) h2]
 refine Pq.eq ?_
 have:Q8 (Q8 [((1:Rat),([1,0,0]:List Int).map fun x=>(a.toNat:Int)*x)] [((1:Rat),([0,1,0]:List Int).map fun x=>(b.toNat:Int)*x)]) [((1:Rat),([0,0,1]:List Int).map fun x=>(c.toNat:Int)*x)]=[((1:Rat),[a,b,c])]:=by
  show [(((1:Rat)*1*1,_):Tm)]=_
  rw [Rat.mul_one,Rat.mul_one]
  congr 2
  simp only [List.map_cons,List.map_nil,J0,List.zipWith_cons_cons,List.zipWith_nil_left]
  congr 1
  ·omega
  ·congr 1
   ·omega
   ·congr 1;omega
 rw [this];exact Yz.refl _
theorem Xd5 {l:List Int} (h:l.length=3):∃ a b c,l=[a,b,c]:=by
 match l,h with
 |[a,b,c],_=>exact⟨a,b,c,rfl⟩
theorem Xcm {l:List Tm} (hc:Canon l) (hw:WN 3 l):WS Xa7 3 l=l:=by
 refine Xcn (Xau _ _) hc (h:=WN.WS Xa8 l) (k:=hw) ?_
 rw [Xa9 Xa8]
 clear hc
 induction l with
 |nil=>rfl
 |cons t l ih =>
  have hl:=hw.w t List.mem_cons_self
  have hn:=hw.nn t List.mem_cons_self
  obtain ⟨c,ks⟩:=t
  obtain ⟨x,y,z,rfl⟩:=Xd5 hl
  rw [Xa0,ih hw.cons.2]
  show Pq.C c*Xa1 (wsQ Xa7 Xa8) [x,y,z] 3+_=_
  rw [Xc9 (hn x (by simp)) (hn y (by simp)) (hn z (by simp))]
  refine Pq.eq ?_
  show Yz ([((c*1,J0 (List.replicate 3 0) [x,y,z]):Tm)]++l) ((c,[x,y,z])::l)
  rw [Rat.mul_one,kX,show J0 [x,y,z] (List.replicate 3 0)=[x,y,z] from I7 [x,y,z]]
  exact Yz.refl _
theorem Xby {k v:Nat} (hv:v<k) {K:List Int} (hK:K.length=k) (h0:0≤Qb K v):∀ {l:List Tm},Zc k l→Jf (YC v l) K=Jf l (K.set v (Qb K v+1))*((Qb K v+1:Int):Rat)
 |[],_=>by show(0:Rat)=0*_;rw [Rat.zero_mul]
 |t::l,hw=>by
  have ih:=Xby hv hK h0 (l:=l) hw.tail
  have ht:=hw t List.mem_cons_self
  have e:YC v (t::l)=SX v t++YC v l:=rfl
  rw [e,Zv,ih,Jf,Rat.add_mul]
  congr 1
  by_cases g:t.2=K.set v (Qb K v+1)
  ·have hd:Qb t.2 v=Qb K v+1:=by rw [g,Ve (by omega),if_pos rfl]
   rw [if_pos g]
   unfold SX
   rw [if_pos (by omega),hd]
   have hs:t.2.set v (Qb K v+1 - 1)=K:=by
    rw [g,List.set_set,show Qb K v+1 - 1=Qb K v by omega,X7 (by omega)]
    exact List.set_getElem_self _
   rw [hs]
   show(if K=K then _ else _)+(0:Rat)=_
   rw [if_pos rfl,Rat.add_zero]
  ·rw [if_neg g,Rat.zero_mul]
   unfold SX
   split
   ·refine Y7 fun x hx=>?_
    rw [List.mem_singleton.1 hx]
    dsimp only
    intro q
    apply g
    have hd:Qb K v=Qb t.2 v - 1:=by rw [← q,Ve (by omega),if_pos rfl]
    rw [hd,← q,List.set_set,show Qb t.2 v - 1+1=Qb t.2 v by omega,X7 (show v<t.2.length by omega)]
    exact(List.set_getElem_self _).symm
   ·rfl
theorem Xcr {l:List Int} {v:Nat} (hv:v<l.length) (z:Int):(l.set v z).sum=l.sum - Qb l v+z:=by
 induction l generalizing v with
 |nil=>simp at hv
 |cons x l ih =>
  cases v with
  |zero=>show z+l.sum=x+l.sum - x+z;omega
  |succ v =>
   have:=ih (v:=v) (by simpa using hv)
   have d:Qb (x::l) (v+1)=Qb l v:=by simp [Qb]
   show x+(l.set v z).sum=x+l.sum - Qb (x::l) (v+1)+z
   rw [this,d];omega
theorem Bd.der {p:List Tm} {k c z v:Nat} {d:Int} (h:Bd p k c z d) (hv:v<k) (hz:1≤z) (hd:d≤12):Bd (JQ (YC v p)) k c (z+5) (d - 1):=by
 refine⟨Zw _,(IY h.wd).JQ,fun t ht=>?_,Nat.le_trans (Va _) (Nat.le_trans (EF v p) h.ln),fun t ht=>?_⟩
 ·obtain ⟨y,hy,e⟩:=H5 ht
  obtain ⟨u,hu,h0,rfl⟩:=Cf hy
  have hn:=h.nn u hu
  have hl:=h.wd u hu
  rw [← e]
  refine⟨fun x hx=>?_,?_⟩
  ·rcases List.mem_or_eq_of_mem_set hx with hx | rfl
   ·exact hn.1 x hx
   ·omega
  ·dsimp only;rw [Xcr (by omega)];omega
 ·obtain ⟨y,hy,e⟩:=H5 ht
  obtain ⟨u,hu,h0,rfl⟩:=Cf hy
  have hn:=h.nn u hu
  have hl:=h.wd u hu
  have e:u.2.set v (Qb u.2 v - 1)=t.2:=e
  have hK:t.2.length=k:=by rw [← e,List.length_set];exact hl
  have hdK:Qb t.2 v=Qb u.2 v - 1:=by rw [← e,Ve (by omega),if_pos rfl]
  have hb:Qb u.2 v≤12:=by
   have:=AJ hn.1 (Qb u.2 v) (by rw [X7 (by omega)];exact List.getElem_mem _)
   omega
  rw [← WT (Zw (YC v p)) ht,Kc,Xby hv hK (by omega) h.wd]
  have h1:=XJ (Jf p (t.2.set v (Qb t.2 v+1))) ((Qb t.2 v+1:Int):Rat)
  have h2:=GG h.can h.sz hz (t.2.set v (Qb t.2 v+1))
  have h3:=Ep (Qb t.2 v+1)
  have h4:YtknegjaeoffnbaaGreatDoor.sz (Qb t.2 v+1)≤4:=(Xv (Qb t.2 v+1) 4).2 (by have:(Qb t.2 v+1).natAbs≤12:=(by omega);omega)
  omega
theorem Xbz {ws:List (List Tm)} {k z:Nat} {l:List Tm} (hn:∀ t∈l,(∀ x∈t.2,0≤x)∧t.2.sum≤1) (hwl:∀ t∈l,t.2.length≤ws.length) (hs:∀ t∈l,JO t.1≤z) (hws:∀ w∈ws,Bd w k 3 z 2) (hz:1≤z):∀ i,i≤l.length→Bd (WS ws k (l.take i)) k (3*i) (1+i*(2*z+7)) 2
 |0,_=>⟨Canon.nil,fun _ h=>(by cases h),fun _ h=>(by cases h),Nat.zero_le _,fun _ h=>(by cases h)⟩
 |i+1,hi=>by
  have ih:=Xbz hn hwl hs hws hz i (by omega)
  have hm:=JN (show i<l.length by omega)
  have hq:=hn _ hm
  have e:WS ws k (l.take (i+1))=JQ (WS ws k (l.take i)++DZ (el l i).1 ws (el l i).2 k (el l i).2.length):=by
   unfold WS;rw [X4 (show i<l.length by omega),List.foldl_append];rfl
  rw [e]
  have hw:∀ j,j<(el l i).2.length→Bd (el ws j) k 3 z 2:=fun j hj=>hws _ (JN (Nat.lt_of_lt_of_le hj (hwl _ hm)))
  have h1:=FN (c:=(el l i).1) (ws:=ws) (ks:=(el l i).2) (k:=k) (z:=z) hq.1 (by omega) hw (hs _ hm) hz (el l i).2.length (Nat.le_refl _)
  rw [List.take_length] at h1
  have h0:=N5 hq.1
  have h2:(el l i).2.sum.toNat=0∨(el l i).2.sum.toNat=1:=by omega
  have h3:Bd (DZ (el l i).1 ws (el l i).2 k (el l i).2.length) k 3 (2*z+6) 2:=by
   rcases h2 with h2 | h2<;>rw [h2] at h1
   ·exact h1.mono (by decide) (by show z≤_;omega) (by omega)
   ·exact h1.mono (Nat.le_refl 3) (Nat.le_refl _) (by omega)
  refine(ih.add h3 (by omega) (by omega)).mono (by omega) ?_ (Int.le_refl _)
  rw [Nat.add_mul,Nat.one_mul];omega
end
section
open Go.RowKit Ig
theorem Xcj {s:List UInt8} {d z:Nat} (h:P2 s d=true) (hz:10^d≤2^z):JO (Jk s)≤z:=by
 simp only [P2,Bool.and_eq_true,decide_eq_true_eq,beq_iff_eq] at h
 obtain ⟨_,hc,h1,h2⟩:=h
 have hs:=(ZO hc).1
 generalize Jk s=x at hs
 have key:∀ n:Nat,(Lib.decDigits n).length≤d→n<2^z:=fun n hn=>by
  have a:=Vv (Jb n)
  rw [XM] at a
  exact Nat.lt_of_lt_of_le (Nat.lt_of_lt_of_le a (Nat.pow_le_pow_right (by decide) hn)) hz
 have e:numOf (Jg x)=X0 x.num:=by
  unfold numOf
  by_cases h:x.den=1
  ·obtain ⟨h1,h2⟩:=RR h
   rw [h2,List.take_length,h1]
  ·exact(Hi h).2.2.1
 rw [hs,e,gi] at h1
 have hn:sz x.num≤z:=(Xv _ _).2 (key _ (by omega))
 have hd:sz (x.den:Int)≤z:=by
  refine(Xv _ _).2 ?_
  rw [Int.natAbs_natCast]
  by_cases g:x.den=1
  ·have:(1:Nat)≤10^d:=Nat.one_le_pow _ _ (by decide)
   have hx:d≠0:=by
    intro h0
    have:=Kw x.num.natAbs
    have h3:(Lib.decDigits x.num.natAbs).length≠0:=fun q=>this (List.length_eq_zero_iff.1 q)
    omega
   have:1<10^d:=Nat.one_lt_pow hx (by decide)
   omega
  ·refine key _ ?_
   rw [hs] at h2
   unfold UU at h2
   rw [if_neg fun e=>g ((RS x).1 e),(Hi g).2.2.2] at h2
   omega
 exact Nat.max_le.2 ⟨hn,hd⟩
theorem Xbh {p:Pt} {v a b:Int} {dg z:Nat} (hk:0≤v) (h:ke p v a b dg=true) (hz:10^dg≤2^z):p=Xg (JA p)∧Bd (JA p) (v+1).toNat a.toNat z b:=by
 obtain ⟨h1,h2⟩:=zz hk h
 refine⟨h1,h2.can,h2.wd,h2.nn,h2.ln,fun t ht=>?_⟩
 unfold ke at h
 split at h
 ·cases h
 ·unfold JA at ht
  obtain ⟨x,hx,rfl⟩:=List.mem_map.1 ht
  rw [Bool.not_eq_true',List.any_eq_false] at h
  have:=h x hx
  rw [Bool.not_eq_true,Bool.or_eq_false_iff,Bool.not_eq_false'] at this
  exact Xcj this.2 hz
section
variable {w:World} {F:Gs} {p w0 w1 w2:List Tm} {a l0 l1 l2:Yw}
theorem Xa4 {q:Option Addr} {cap:Nat} (hF:Fits F w) (hGl:JC F) (hA:ZR F a.1 a.2 (Xg p)) (hR:Q4 F q 3 1 ([l0,l1,l2].map fun e=>e.1.v)) (h0:ZR F l0.1 l0.2 (Xg w0)) (h1:ZR F l1.1 l1.2 (Xg w1)) (h2:ZR F l2.1 l2.2 (Xg w2))
  (hp:Bq 3 p) (q0:Bq 3 w0) (q1:Bq 3 w1) (q2:Bq 3 w2) (ho:Fa [w0,w1,w2] 3 p) (hr:Bq 3 (WS [w0,w1,w2] 3 p)) :
  QT Tryz.prog 44 [a.1.v,.int .i64 2,.slice q 3 cap,.int .i64 2] w F (fun(c:Yw)=>.tuple #[c.1.v,.int .i64 0]) (fun c F=>ZR F c.1 c.2 (Xg (WS [w0,w1,w2] 3 p))):=by
 have e:([Xg w0,Xg w1,Xg w2]:List Pt).map JA=[w0,w1,w2]:=by simp [Hx]
 exact T7 (a:=a) (ls:=[l0,l1,l2]) (P:=Xg p) (Ws:=[Xg w0,Xg w1,Xg w2]) (R:=Xg (WS [w0,w1,w2] 3 p)) (v:=2) (u:=2) hF hGl (fun x hx=>by rw [List.mem_singleton.1 hx];exact⟨hA.1,hA.2.1⟩) (hp.I8 (by decide) hA) hR
  (fun x hx=>by
   simp only [List.mem_cons,List.not_mem_nil,or_false] at hx
   rcases hx with rfl | rfl | rfl
   ·exact⟨h0.1,h0.2.1⟩
   ·exact⟨h1.1,h1.2.1⟩
   ·exact⟨h2.1,h2.2.1⟩) rfl
  (fun x hx=>by
   simp only [List.mem_cons,List.not_mem_nil,or_false] at hx
   rcases hx with rfl | rfl | rfl
   ·exact q0.I8 (by decide) h0
   ·exact q1.I8 (by decide) h1
   ·exact q2.I8 (by decide) h2) hA.2.2.1 (by
   show [Jp l0.2,Jp l1.2,Jp l2.2]=_
   rw [h0.2.2.1,h1.2.2.1,h2.2.2.1]) (by decide) (by decide) (hp.CW rfl) rfl (by
   show Qm [XF (Xg w0) 2,XF (Xg w1) 2,XF (Xg w2) 2]=0
   rw [q0.CW rfl,q1.CW rfl,q2.CW rfl];rfl) (by rw [e,Hx];exact ho) (by rw [e,Hx];exact hr.res.1) (by rw [e,Hx];exact hr.res.2)
end
theorem el3 {C:Nat→Prop} (h0:C 0) (h1:C 1) (h2:C 2) {j:Nat} (hj:j<3):C j:=by
 match j,hj with
 |0,_=>exact h0
 |1,_=>exact h1
 |2,_=>exact h2
section
variable {A B C:List Tm} {v:Nat}
theorem dC.of3 {ws:List (List Tm)} {l:List Tm} {c z z':Nat} {d:Int} (hl:Bd l 3 c z d) (hc:c≤6) (hd:d≤2) (hw:∀ w∈ws,Bd w 3 3 z' 2) (hz:z'≤z) (h3:ws.length=3):dC ws 3 z l :=
 ⟨Nat.le_trans hl.ln hc,fun t ht=>⟨(hl.nn t ht).1,Int.le_trans (hl.nn t ht).2 hd⟩,fun t ht=>by rw [hl.wd t ht,h3];exact Nat.le_refl _,hl.sz,fun w h=>(hw w h).mono (Nat.le_refl _) hz (Int.le_refl _)⟩
theorem Xc7 {ws:List (List Tm)} {l:List Tm} {z:Nat} (h:dC ws 3 z l) (hz:1≤z):Bd (WS ws 3 l) 3 (9*l.length) (1+l.length*(9*z+35)) 4:=by
 have:=FM h hz l.length (Nat.le_refl _)
 rwa [List.take_length] at this
def chP (ws:List (List Tm)) (A:List Tm) (v j:Nat):List Tm:=JQ (Q8 (WS ws 3 (JQ (YC j A))) (JQ (YC v (el ws j))))
def chS (ws:List (List Tm)) (A:List Tm) (v:Nat):Nat→List Tm
 |0=>[]
 |j+1=>JQ (chS ws A v j++chP ws A v j)
structure ChB (A B C:List Tm):Prop where
 a:Bd A 3 3 14 2
 b:Bd B 3 3 14 2
 c:Bd C 3 3 14 2
theorem ChB.ws (h:ChB A B C):∀ w∈[A,B,C],Bd w 3 3 14 2:=fun w hw=>by
 simp only [List.mem_cons,List.not_mem_nil,or_false] at hw
 rcases hw with rfl | rfl | rfl
 ·exact h.a
 ·exact h.b
 ·exact h.c
theorem ChB.el (h:ChB A B C) {j:Nat} (hj:j<3):Bd (el [A,B,C] j) 3 3 14 2:=h.ws _ (JN hj)
theorem ChB.outer (h:ChB A B C) {j:Nat} (hj:j<3):Bd (JQ (YC j A)) 3 3 19 1:=h.a.der hj (by decide) (by decide)
theorem ChB.Xd4 (h:ChB A B C) {j:Nat} (hj:j<3):Bd (WS [A,B,C] 3 (JQ (YC j A))) 3 9 136 2:=by
 have ho:=h.outer hj
 have h1:=Xbz (ws:=[A,B,C]) (k:=3) (z:=19) ho.nn (fun t ht=>by rw [ho.wd t ht];exact Nat.le_refl _) ho.sz (fun w hw=>(h.ws w hw).mono (Nat.le_refl _) (by decide) (Int.le_refl _)) (by decide) _ (Nat.le_refl _)
 rw [List.take_length] at h1
 have h2:=ho.ln
 have:=Nat.mul_le_mul_right (2*19+7) h2
 exact h1.mono (by omega) (by omega) (Int.le_refl _)
theorem ChB.inner (h:ChB A B C) (hv:v<3) {j:Nat} (hj:j<3):Bd (JQ (YC v (YtknegjaeoffnbaaGreatDoor.el [A,B,C] j))) 3 3 19 1:=(h.el hj).der hv (by decide) (by decide)
theorem ChB.part (h:ChB A B C) (hv:v<3) {j:Nat} (hj:j<3):Bd (chP [A,B,C] A v j) 3 27 469 3:=(h.Xd4 hj).mulR (h.inner hv hj) (by decide)
end
end
section
open Go.RowKit Ig
section
variable {P:Program} {N:Nat} {m:Sl} {Y:World→Prop} {ty:TypeId}
theorem Xcz {T yT:TypeId} {x y:Operand} {a:List UInt8} (hx:ev m x=some (tx a)) (hy:ev m y=some (tx a)):Qt P N m Y (.binOp .neq T x y yT) ty (.bool false):=by
 have:=L4 (P:=P) (N:=N) (Y:=Y) (ty:=ty) (T:=T) (yT:=yT) hx hy
 rw [show(!(a==a))=false from by simp] at this;exact this
end
end
section
open Go.RowKit Ig
theorem Xb1:∀ w∈Xa7,Bd w 3 3 14 2:=fun w hw=>by
 have key:∀ e:List Int,e.length=3→(∀ x∈e,0≤x)→e.sum≤2→Bd [((1:Rat),e)] 3 3 14 2:=fun e h1 h2 h3 =>
  ⟨⟨List.pairwise_singleton _ _,fun t ht=>by rw [List.mem_singleton.1 ht];exact(by decide +kernel:(1:Rat)≠0)⟩,fun t ht=>by rw [List.mem_singleton.1 ht];exact h1,fun t ht=>by rw [List.mem_singleton.1 ht];exact⟨h2,h3⟩,(by decide:1≤3),fun t ht=>by rw [List.mem_singleton.1 ht];exact(by decide +kernel:JO (1:Rat)≤14)⟩
 unfold Xa7 at hw
 simp only [List.mem_cons,List.not_mem_nil,or_false] at hw
 rcases hw with rfl | rfl | rfl
 ·exact key [1,0,0] rfl (by decide) (by decide)
 ·exact key [0,1,0] rfl (by decide) (by decide)
 ·exact key [0,0,1] rfl (by decide) (by decide)
theorem Xcy:[(([49],(List.replicate (2+1) (0:Int)).set 0 1):List UInt8×List Int)]=Xg [(1,[1,0,0])]:=by decide +kernel
theorem Xcx:[(([49],(List.replicate (2+1) (0:Int)).set 1 1):List UInt8×List Int)]=Xg [(1,[0,1,0])]:=by decide +kernel
theorem Xcw:[(([49],(List.replicate (2+1) (0:Int)).set 2 1):List UInt8×List Int)]=Xg [(1,[0,0,1])]:=by decide +kernel
structure CoJ (Y:List Rat) where
 i:Nat
 v:Value
 ob:List (Nat×Obj)
 le:i≤3
 hr:Qz 22 1 v i (((Y.take i).map Jg).map tx) ob
set_option maxRecDepth 20000 in
theorem Xc1 {w:World} {F:Gs} {pa pb pc:Yw} {x0 x1 x2:List UInt8} (hF:Fits F w) (hGl:JC F) (hA:ZR F pa.1 pa.2 (Jp pa.2)) (hB:ZR F pb.1 pb.2 (Jp pb.2)) (hC:ZR F pc.1 pc.2 (Jp pc.2))
  (fA:∀ t∈pa.2,t.f.length≤9223372036854775807∧t.k.length≤9223372036854775807) (fB:∀ t∈pb.2,t.f.length≤9223372036854775807∧t.k.length≤9223372036854775807) (fC:∀ t∈pc.2,t.f.length≤9223372036854775807∧t.k.length≤9223372036854775807) (lA:pa.1.n≤9223372036854775807) (lB:pb.1.n≤9223372036854775807) (lC:pc.1.n≤9223372036854775807) :
  Qc Tryz.prog 13 [.agg #[pa.1.v,pb.1.v,pc.1.v],.agg #[tx x0,tx x1,tx x2]] w F (.bool true):=by
 refine QT.intro (G:=fun F=>JC F∧ZR F pa.1 pa.2 (Jp pa.2)∧ZR F pb.1 pb.2 (Jp pb.2)∧ZR F pc.1 pc.2 (Jp pc.2)) Tryz.func13 rfl (by rfl) rfl rfl hF (fun F' hF'=>⟨hGl.le hF',hA.le hF',hB.le hF',hC.le hF'⟩)<|QG<|QB ?_
 refine Q5 rfl (vs:=[_,_,_]) rfl (fun b2=>?_)
 refine Q5 rfl (vs:=[_,_,_]) rfl (fun b3=>?_)
 refine Wf (b:=b2) (.there .here)<|Wf (b:=b3) .here<|JS_as rfl<|JS_nt<|QG<|JR subl_r mixed (by kernel_rfl)<|QM (Pc (i:=0) rfl rfl gZ Gn (by decide))<|QM (JM (n:=1) ((0)*3+0) (fun F h9=>(Q4.of (n:=1) (sz:=3) h9.1.2 rfl)) (by omega) rfl Gn rfl)<|QM (Pc (i:=1) rfl rfl gZ Gn (by decide))<|QM (JM (n:=1) ((0)*3+1) (fun F h9=>(Q4.of (n:=1) (sz:=3) h9.1.2 rfl)) (by omega) rfl Gn rfl)<|QM (Pc (i:=2) rfl rfl gZ Gn (by decide))<|QM (JM (n:=1) ((0)*3+2) (fun F h9=>(Q4.of (n:=1) (sz:=3) h9.1.2 rfl)) (by omega) rfl Gn rfl)<|QM (QF rfl)<|QM (QF rfl)<|QM (QF rfl)<|Q9<|QC<|QG ?_
 refine K5 [(3,_),(5,_),(6,_),(7,_)] [(56,.bool ((((!(ke (Jp pa.2) 2 3 2 4)||!(ke (Jp pb.2) 2 3 2 4))||!(ke (Jp pc.2) 2 3 2 4))||!(decide (((3:Nat):Int)≤3)&&[x0,x1,x2].all (fun s=>P2 s 4)))))] ⟨rfl,rfl,rfl,rfl,trivial⟩ ?_ ?_
 ·
  refine QB ?_
  refine QH rfl (fun w F hF h9=>jR hF h9.1.1.1) (fun _=>?_)
  refine QA (Z0 rfl)<|JS_mv rfl<|QJ rfl rfl<|JS_mv rfl<|QJ rfl rfl ?_
  refine QH rfl (fun w F hF h9=>Xad (a:=pa) hF h9.1.1.1.1 h9.1.1.1.2.1 fA lA) (fun _=>?_)
  refine QJ rfl rfl<|QA (Z0 rfl)<|QA (Qh rfl rfl rfl)<|JS_mv rfl ?_
  refine Qn (t:=42) rfl (fun hb42=>?_) (fun hb42=>?_)
  ·
   refine QN rfl rfl rfl<|QN rfl rfl rfl<|QN rfl rfl rfl<|QA (Qj rfl rfl rfl)<|JS_mv rfl<|QN rfl rfl rfl<|QN rfl rfl rfl<|QN rfl rfl rfl<|QA (Qj rfl rfl rfl)<|JS_mv rfl<|QN rfl rfl rfl<|QN rfl rfl rfl<|QN rfl rfl rfl<|QA (Qj rfl rfl rfl)<|QE ?_
   exact ZB ⟨rfl,rfl,rfl,rfl,(congrArg (fun b=>some (Value.bool b)) (by rw [Bool.eq_iff_iff];simp_all)),trivial⟩ subl_r (fun _ h=>h.1.1)
  ·
   refine QJ rfl rfl<|JS_mv rfl<|QJ rfl rfl ?_
   refine QH rfl (fun w F hF h9=>Xad (a:=pb) hF h9.1.1.1.1.1 h9.1.1.1.1.2.2.1 fB lB) (fun _=>?_)
   refine QJ rfl rfl<|QA (Z0 rfl)<|QA (Qh rfl rfl rfl)<|JS_mv rfl ?_
   refine Qn (t:=47) rfl (fun hb47=>?_) (fun hb47=>?_)
   ·
    refine QN rfl rfl rfl<|QN rfl rfl rfl<|QN rfl rfl rfl<|QA (Qj rfl rfl rfl)<|JS_mv rfl<|QN rfl rfl rfl<|QN rfl rfl rfl<|QN rfl rfl rfl<|QA (Qj rfl rfl rfl)<|QE ?_
    exact ZB ⟨rfl,rfl,rfl,rfl,(congrArg (fun b=>some (Value.bool b)) (by rw [Bool.eq_iff_iff];simp_all)),trivial⟩ subl_r (fun _ h=>h.1.1.1)
   ·
    refine QJ rfl rfl<|JS_mv rfl<|QJ rfl rfl ?_
    refine QH rfl (fun w F hF h9=>Xad (a:=pc) hF h9.1.1.1.1.1.1 h9.1.1.1.1.1.2.2.2 fC lC) (fun _=>?_)
    refine QJ rfl rfl<|QA (Z0 rfl)<|QA (Qh rfl rfl rfl)<|JS_mv rfl ?_
    refine Qn (t:=52) rfl (fun hb52=>?_) (fun hb52=>?_)
    ·
     refine QN rfl rfl rfl<|QN rfl rfl rfl<|QN rfl rfl rfl<|QA (Qj rfl rfl rfl)<|QE ?_
     exact ZB ⟨rfl,rfl,rfl,rfl,(congrArg (fun b=>some (Value.bool b)) (by rw [Bool.eq_iff_iff];simp_all)),trivial⟩ subl_r (fun _ h=>h.1.1.1.1)
    ·
     refine QJ rfl rfl<|QA (DK rfl Cm Jy)<|QJ rfl rfl ?_
     refine QH rfl (fun w F hF h9=>j1 (l:=[x0,x1,x2]) (m:=3) (d:=4) hF (Q4.of (n:=3) (sz:=1) (cs:=[x0,x1,x2].map tx) h9.1.1.1.1.2 rfl) rfl (by decide) (by decide)) (fun _=>?_)
     refine QJ rfl rfl<|QA (Z0 rfl)<|QA (Qh rfl rfl rfl)<|QE ?_
     exact ZB ⟨rfl,rfl,rfl,rfl,(congrArg (fun b=>some (Value.bool b)) (by rw [Bool.eq_iff_iff];simp_all)),trivial⟩ subl_r (fun _ h=>h.1.1.1.1.1)
 ·
  simp only [List.cons_append,List.nil_append]
  refine QP rfl (fun hc=>?_) (fun hc=>?_)
  ·
   refine QG<|QB ?_
   refine QH rfl (fun w F hF h9=>jR hF h9.1.1.1) (fun _=>?_)
   refine JS_as rfl<|JS_nt<|QS ?_
   exact F_r1 rfl rfl (rfl) (fun F h9=>trivial)
  ·
   rw [Bool.or_eq_false_iff,Bool.or_eq_false_iff,Bool.or_eq_false_iff,Bool.not_eq_false',Bool.not_eq_false',Bool.not_eq_false',Bool.not_eq_false',Bool.and_eq_true] at hc
   obtain ⟨⟨⟨fa,fb⟩,fc⟩,_,fl⟩:=hc
   obtain ⟨A,eA,ba⟩:∃ A,Jp pa.2=Xg A∧Bd A 3 3 14 2:=⟨_,Xbh (v:=2) (a:=3) (b:=2) (dg:=4) (by decide) fa (by decide)⟩
   obtain ⟨B,eB,bb⟩:∃ B,Jp pb.2=Xg B∧Bd B 3 3 14 2:=⟨_,Xbh (v:=2) (a:=3) (b:=2) (dg:=4) (by decide) fb (by decide)⟩
   obtain ⟨C,eC,bc⟩:∃ C,Jp pc.2=Xg C∧Bd C 3 3 14 2:=⟨_,Xbh (v:=2) (a:=3) (b:=2) (dg:=4) (by decide) fc (by decide)⟩
   have hxf:∀ s∈[x0,x1,x2],P2 s 4=true:=fun s hs=>List.all_eq_true.1 fl s hs
   have hxs:∀ s∈[x0,x1,x2],Ja s=0∧s.length≤1000000:=fun s hs=>⟨(pK (d:=4) (hxf s hs)).1,by have:=(pK (d:=4) (hxf s hs)).2.1;omega⟩
   have hxz:∀ x∈([x0,x1,x2].map Jk),JO x≤14:=fun x hx=>by
    obtain ⟨s,hs,rfl⟩:=List.mem_map.1 hx
    exact Xcj (d:=4) (hxf s hs) (by decide)
   have hws:∀ w∈[C,A,B],Bd w 3 3 14 2:=ChB.ws ⟨bc,ba,bb⟩
   have hwn:∀ w∈[C,A,B],WN 3 w:=fun w hw=>(hws w hw).wn
   have qa:Bq 3 A:=Bq.of ba (by decide) (by decide) (by decide)
   have qb:Bq 3 B:=Bq.of bb (by decide) (by decide) (by decide)
   have qc:Bq 3 C:=Bq.of bc (by decide) (by decide) (by decide)
   have fwa:=dC.of3 ba (by decide) (by decide) hws (by decide) rfl
   have fwb:=dC.of3 bb (by decide) (by decide) hws (by decide) rfl
   have bsu:=ba.add bb (by decide) (by decide)
   have fws:=dC.of3 bsu (by decide) (by decide) hws (by decide) rfl
   have fwv:=dC.of3 ba (by decide) (by decide) Xb1 (by decide) rfl
   have bwh:Bd (WS [C,A,B] 3 A) 3 27 484 4:=(Xc7 fwa (by decide)).mono (by have:=ba.ln;omega) (by have:=Nat.mul_le_mul_right (9*14+35) ba.ln;omega) (Int.le_refl _)
   have bot:Bd (WS [C,A,B] 3 B) 3 27 484 4:=(Xc7 fwb (by decide)).mono (by have:=bb.ln;omega) (by have:=Nat.mul_le_mul_right (9*14+35) bb.ln;omega) (Int.le_refl _)
   have qwh:Bq 3 (WS [C,A,B] 3 A):=Bq.of bwh (by decide) (by decide) (by decide)
   have qot:Bq 3 (WS [C,A,B] 3 B):=Bq.of bot (by decide) (by decide) (by decide)
   have qsu:Bq 3 (JQ (A++B)):=Bq.of bsu (by decide) (by decide) (by decide)
   have qtw:Bq 3 (JQ ((WS [C,A,B] 3 A)++(WS [C,A,B] 3 B))):=Bq.of (bwh.add bot (by decide) (by decide)) (by decide) (by decide) (by decide)
   have esm:(WS [C,A,B] 3 (JQ (A++B)))=(JQ ((WS [C,A,B] 3 A)++(WS [C,A,B] 3 B))):=Xcs hwn A B
   have qon:Bq 3 (WS [C,A,B] 3 (JQ (A++B))):=by rw [esm];exact qtw
   have esa:WS [[(1,[1,0,0])],[(1,[0,1,0])],[(1,[0,0,1])]] 3 A=A:=Xcm ba.can ba.wn
   have qsa:Bq 3 (WS [[(1,[1,0,0])],[(1,[0,1,0])],[(1,[0,0,1])]] 3 A):=by rw [esa];exact qa
   have qv0:Bq 3 [(1,[1,0,0])]:=Bq.of (Xb1 _ (by simp [Xa7])) (by decide) (by decide) (by decide)
   have qv1:Bq 3 [(1,[0,1,0])]:=Bq.of (Xb1 _ (by simp [Xa7])) (by decide) (by decide) (by decide)
   have qv2:Bq 3 [(1,[0,0,1])]:=Bq.of (Xb1 _ (by simp [Xa7])) (by decide) (by decide) (by decide)
   have za:JO (Zu ([x0,x1,x2].map Jk) A)≤142:=Ox ba hxz (Nat.le_refl 3) (by decide)
   have zb:JO (Zu ([x0,x1,x2].map Jk) B)≤142:=Ox bb hxz (Nat.le_refl 3) (by decide)
   have zc:JO (Zu ([x0,x1,x2].map Jk) C)≤142:=Ox bc hxz (Nat.le_refl 3) (by decide)
   have hyz:∀ y∈[Zu ([x0,x1,x2].map Jk) C,Zu ([x0,x1,x2].map Jk) A,Zu ([x0,x1,x2].map Jk) B],JO y≤142:=fun y hy=>by
    simp only [List.mem_cons,List.not_mem_nil,or_false] at hy
    rcases hy with rfl | rfl | rfl
    ·exact zc
    ·exact za
    ·exact zb
   have zw:JO (Zu [Zu ([x0,x1,x2].map Jk) C,Zu ([x0,x1,x2].map Jk) A,Zu ([x0,x1,x2].map Jk) B] A)≤910:=Ox ba hyz (Nat.le_refl 3) (by decide)
   have ecv:Zu ([x0,x1,x2].map Jk) (WS [C,A,B] 3 A)=Zu [Zu ([x0,x1,x2].map Jk) C,Zu ([x0,x1,x2].map Jk) A,Zu ([x0,x1,x2].map Jk) B] A:=Xd0 ([x0,x1,x2].map Jk) hwn (fun t ht=>by rw [ba.wd t ht];exact Nat.le_refl 3)
   have zv:JO (Zu ([x0,x1,x2].map Jk) (WS [C,A,B] 3 A))≤910:=by rw [ecv];exact zw
   have eyv:([Zu ([x0,x1,x2].map Jk) C,Zu ([x0,x1,x2].map Jk) A,Zu ([x0,x1,x2].map Jk) B].map Jg).map Jk=[Zu ([x0,x1,x2].map Jk) C,Zu ([x0,x1,x2].map Jk) A,Zu ([x0,x1,x2].map Jk) B]:=by simp [Cs]
   have hys:∀ s∈[Zu ([x0,x1,x2].map Jk) C,Zu ([x0,x1,x2].map Jk) A,Zu ([x0,x1,x2].map Jk) B].map Jg,Ja s=0∧s.length≤1000000:=fun s hs=>by
    obtain ⟨y,hy,rfl⟩:=List.mem_map.1 hs
    have:=Gd y
    have h1:=hyz y hy
    exact⟨Cj (GC h1 (by decide)),by omega⟩
   have zw2:JO (Zu (([Zu ([x0,x1,x2].map Jk) C,Zu ([x0,x1,x2].map Jk) A,Zu ([x0,x1,x2].map Jk) B].map Jg).map Jk) A)≤910:=by rw [eyv];exact zw
   refine QO<|QC<|J_sr<|JS_mv rfl<|JS_mv rfl<|JS_mv rfl ?_
   refine QW rfl (Q7 DA) Gn jh rfl rfl (fun b61=>?_)
   refine JS_as rfl<|JS_nt<|J_sr<|JS_mv rfl<|JS_mv rfl ?_
   refine QH rfl (fun w F hF ⟨⟨⟨⟨hGl,hA,hB,hC⟩,hz2⟩,hz3⟩,hs61⟩=>Xa4 (a:=pa) (l0:=pc) (l1:=pa) (l2:=pb) (p:=A) (w0:=C) (w1:=A) (w2:=B) (cap:=3) hF hGl (hA.eq eA) (Q4.of (n:=3) (sz:=1) (cs:=[pc,pa,pb].map fun e=>e.1.v) hs61 rfl) (hC.eq eC) (hA.eq eA) (hB.eq eB) qa qc qa qb (yG fwa (by decide) (by decide) (by decide)) qwh) (fun c65=>?_)
   refine JS_mv rfl<|QA (QK rfl rfl)<|QA (QK rfl rfl)<|JS_as rfl<|JS_as rfl<|JS_nt<|J_sr<|JS_mv rfl<|QA (DK rfl Cm Jy) ?_
   refine QH rfl (fun w F hF h9=>(by have h:=FI (a:=c65) (p:=(WS [C,A,B] 3 A)) (k:=3) (cap:=3) (xs:=[x0,x1,x2]) hF h9.1.1.1.1.1 h9.2 (by decide) qwh (Q4.of (n:=3) (sz:=1) (cs:=[x0,x1,x2].map tx) h9.1.1.2 rfl) rfl hxs (GC zv (by decide));rw [ecv] at h;exact h)) (fun _=>?_)
   refine JS_mv rfl<|QA (QK rfl rfl)<|QA (QK rfl rfl)<|JS_as rfl<|JS_as rfl<|JS_nt<|QG<|J_sr<|JS_mv rfl<|JS_mv rfl<|QA (Qp rfl rfl (by omega))<|QA (QU rfl rfl rfl)<|QE<|QC ?_
   refine QP rfl (fun hc=>?_) (fun hc=>?_)
   ·exact absurd hc (by simp)
   ·
    refine QO<|QC<|J_sr<|JS_as rfl<|JS_nt<|QG<|J_sr<|JS_as rfl<|JS_nt<|QX ?_
    refine Jw (ι:=CoJ [Zu ([x0,x1,x2].map Jk) C,Zu ([x0,x1,x2].map Jk) A,Zu ([x0,x1,x2].map Jk) B]) [(3,_),(5,_),(6,_),(8,_),(9,_),(11,_)] (fun i=>[(13,i.v),(14,.int .i64 ((i.i:Nat):Int))]) (fun i=>i.ob) (fun i F=>True) (fun i=>3 - i.i) (⟨0,_,[],by decide,.nil⟩) ⟨rfl,rfl,rfl,rfl,rfl,rfl,trivial⟩ ⟨rfl,rfl,trivial⟩ subl_r (fun _ _=>trivial) (fun i=>?_)
    simp only [List.cons_append,List.nil_append]
    have hi:=i.le
    refine QG<|J_sr<|JS_mv rfl<|QA (QU rfl rfl rfl)<|QE<|QC ?_
    refine QP rfl (fun hc=>?_) (fun hc=>?_)
    ·
     have hlt:i.i<3:=by have:=dec_t hc;omega
     have ey:Zu ([x0,x1,x2].map Jk) (el [C,A,B] i.i)=el [Zu ([x0,x1,x2].map Jk) C,Zu ([x0,x1,x2].map Jk) A,Zu ([x0,x1,x2].map Jk) B] i.i:=el3 (C:=fun j=>Zu ([x0,x1,x2].map Jk) (el [C,A,B] j)=el [Zu ([x0,x1,x2].map Jk) C,Zu ([x0,x1,x2].map Jk) A,Zu ([x0,x1,x2].map Jk) B] j) rfl rfl rfl hlt
     have zi:JO (el [Zu ([x0,x1,x2].map Jk) C,Zu ([x0,x1,x2].map Jk) A,Zu ([x0,x1,x2].map Jk) B] i.i)≤142:=hyz _ (JN hlt)
     have zi2:JO (Zu ([x0,x1,x2].map Jk) (el [C,A,B] i.i))≤142:=by rw [ey];exact zi
     have qi:Bq 3 (el [C,A,B] i.i):=Bq.of (hws _ (JN hlt)) (by decide) (by decide) (by decide)
     refine QO<|QC<|QG<|QX<|QG<|JR subl_r mixed (by kernel_rfl)<|QM (QD rfl)<|QM (QD rfl)<|QM (JK (n:=3) (i.i) (fun F h9=>(Q4.of (n:=3) (sz:=1) (cs:=[pc,pa,pb].map fun e=>e.1.v) h9.1.1.1.2 rfl)) rfl rfl DA Gn (by omega))<|QM (JM (n:=3) ((i.i)*1) (fun F h9=>(Q4.of (n:=3) (sz:=1) (cs:=[pc,pa,pb].map fun e=>e.1.v) h9.1.1.1.2 rfl)) (by omega) rfl Gn (DR (f:=fun e:Yw=>e.1.v) (l:=[pc,pa,pb]) (by show _<3;omega)))<|QM (DK rfl Cm Jy) ?_
     refine Qg rfl (fun w F hF ⟨⟨⟨⟨⟨⟨⟨hGl,hA,hB,hC⟩,hz2⟩,hz3⟩,hs61⟩,h65⟩,_⟩,_⟩=>(by have h:=FI (a:=(el [pc,pa,pb] i.i)) (p:=(el [C,A,B] i.i)) (k:=3) (cap:=3) (xs:=[x0,x1,x2]) hF hGl (el3 (C:=fun j=>ZR F (el [pc,pa,pb] j).1 (el [pc,pa,pb] j).2 (Xg (el [C,A,B] j))) (hC.eq eC) (hA.eq eA) (hB.eq eB) hlt) (by decide) qi (Q4.of (n:=3) (sz:=1) (cs:=[x0,x1,x2].map tx) hz3 rfl) rfl hxs (GC zi2 (by decide));rw [ey] at h;exact h)) (fun _=>?_)
     refine QM (QD rfl)<|QM (QK rfl rfl)<|QM (QK rfl rfl)<|QM (QF rfl)<|QM (QF rfl)<|Q9<|QC<|QG<|J_sr<|JS_mv rfl<|QA (QU rfl rfl rfl)<|JS_mv rfl<|QJ rfl rfl<|JS_mv rfl<|QJ rfl rfl ?_
     refine QH rfl (fun w F hF h9=>(by have h:=S7 (s:=Jg (el [Zu ([x0,x1,x2].map Jk) C,Zu ([x0,x1,x2].map Jk) A,Zu ([x0,x1,x2].map Jk) B] i.i)) hF (by have:=Gd (el [Zu ([x0,x1,x2].map Jk) C,Zu ([x0,x1,x2].map Jk) A,Zu ([x0,x1,x2].map Jk) B] i.i);omega);rw [Cj (GC zi (by decide))] at h;exact h)) (fun _=>?_)
     refine QJ rfl rfl<|QA (QU rfl rfl rfl)<|QA (Qh rfl rfl rfl)<|QE<|QC ?_
     refine QP rfl (fun hc=>?_) (fun hc=>?_)
     ·exact absurd hc (by simp)
     ·
      refine QO<|QC<|QB<|JS_mv rfl<|JS_mv rfl ?_
      refine QW rfl (Q7 Hz) Jy ki rfl rfl (fun b100=>?_)
      refine VT (bs1:=[]) (ob:=i.ob) (n:=i.i) (k:=1) (sz:=1) (news:=[tx (Jg (el [Zu ([x0,x1,x2].map Jk) C,Zu ([x0,x1,x2].map Jk) A,Zu ([x0,x1,x2].map Jk) B] i.i))]) rfl rfl Hz Jy ki rfl Xd8 i.hr (Src.row (off:=0) (fun F h9=>h9.2) (fun j q hq=>by rw [Nat.zero_add];rw [List.getElem?_toArray];exact hq) rfl) (by omega) (by omega) (Zq ⟨rfl,trivial⟩) (fun v101 ob101 hr101=>?_)
      refine JS_as rfl<|QE<|Qk<|QC<|QB<|JS_mv rfl<|QA (Qp rfl rfl (by omega))<|JS_as rfl<|QE ?_
      exact Ql (⟨i.i+1,v101,ob101,hlt,by rw [X4 hlt,List.map_append,List.map_append];exact hr101⟩) (by show 3 - (i.i+1)<3 - i.i;omega) ⟨rfl,rfl,rfl,rfl,rfl,rfl,rfl,rfl,trivial⟩ subl_r (fun F h=>⟨h.1.1.1.1,trivial⟩)
    ·
     have hge:i.i=3:=by have:=dec_f hc;omega
     refine Qy ?_
     repeat (first | refine QZ ?_ | refine QV (by rfl) ?_)
     refine Qa<|QC<|QG ?_
     obtain ⟨⟨rq,rn,rc⟩,hv2,hrn,hrc,hfix⟩:=Qz.fix (w0:=w) (F0:=F) (bs1:=[]) (G:=_) i.hr
     dsimp only at hrn hrc hfix
     have hrn3:rn=3:=hrn.trans hge
     subst hrn3
     refine UY hfix ?_
     rw [hv2]
     dsimp only [Sr.v]
     refine QB<|JS_mv rfl<|JS_mv rfl ?_
     refine QH rfl (fun w F hF ⟨⟨⟨⟨⟨⟨⟨⟨hGl,hA,hB,hC⟩,hz2⟩,hz3⟩,hs61⟩,h65⟩,_⟩,_⟩,hrow⟩=>(by have h:=FI (a:=pa) (p:=A) (k:=3) (cap:=rc) (xs:=([Zu ([x0,x1,x2].map Jk) C,Zu ([x0,x1,x2].map Jk) A,Zu ([x0,x1,x2].map Jk) B].map Jg)) hF hGl (hA.eq eA) (by decide) qa (by rw [hge] at hrow;exact hrow) rfl hys (GC zw2 (by decide));rw [eyv] at h;exact h)) (fun _=>?_)
     refine JS_mv rfl<|QA (QK rfl rfl)<|QA (QK rfl rfl)<|JS_as rfl<|JS_as rfl<|JS_nt<|QG<|J_sr<|JS_mv rfl<|QA (QU rfl rfl rfl)<|JS_mv rfl<|QJ rfl rfl<|JS_mv rfl<|QJ rfl rfl<|JS_mv rfl<|QJ rfl rfl<|QA (Xcz rfl rfl)<|QA (Qh rfl rfl rfl)<|JS_nt<|YF rfl<|QO<|QC ?_
     refine J_sr<|JS_mv rfl ?_
     refine QH rfl (fun w F hF h9=>Xa6 (v:=0) (k:=2) hF (by decide) (by decide)) (fun c117=>?_)
     refine QH rfl (fun w F hF h9=>Xa6 (v:=1) (k:=2) hF (by decide) (by decide)) (fun c118=>?_)
     refine QH rfl (fun w F hF h9=>Xa6 (v:=2) (k:=2) hF (by decide) (by decide)) (fun c119=>?_)
     refine QW rfl (Q7 DA) Gn jh rfl rfl (fun b120=>?_)
     refine QH rfl (fun w F hF h9=>Xa4 (a:=pa) (l0:=c117) (l1:=c118) (l2:=c119) (p:=A) (w0:=[(1,[1,0,0])]) (w1:=[(1,[0,1,0])]) (w2:=[(1,[0,0,1])]) (cap:=3) hF h9.1.1.1.1.1.1.1.1.1.1.1.1.1 (h9.1.1.1.1.1.1.1.1.1.1.1.1.2.1.eq eA) (Q4.of (n:=3) (sz:=1) (cs:=[c117,c118,c119].map fun e=>e.1.v) h9.2 rfl) (h9.1.1.1.2.eq Xcy) (h9.1.1.2.eq Xcx) (h9.1.2.eq Xcw) qa qv0 qv1 qv2 (yG fwv (by decide) (by decide) (by decide)) qsa) (fun c121=>?_)
     refine JS_mv rfl<|QA (QK rfl rfl)<|QA (QK rfl rfl)<|JS_as rfl<|JS_as rfl<|JS_nt<|J_sr<|JS_mv rfl<|JS_mv rfl ?_
     refine QH rfl (fun w F hF h9=>yQ (a:=pa) (b:=pb) (p:=A) (q:=B) (k:=3) (v:=2) hF h9.1.1.1.1.1.1.1.1.1.1.1.1.1.1 (h9.1.1.1.1.1.1.1.1.1.1.1.1.1.2.1.eq eA) (h9.1.1.1.1.1.1.1.1.1.1.1.1.1.2.2.1.eq eB) rfl (by decide) qa qb qsu) (fun c127=>?_)
     refine JS_mv rfl<|QA (QK rfl rfl)<|QA (QK rfl rfl)<|JS_as rfl<|JS_as rfl<|JS_nt<|J_sr<|JS_mv rfl<|JS_mv rfl ?_
     refine QH rfl (fun w F hF ⟨⟨⟨⟨⟨⟨⟨⟨⟨⟨⟨⟨⟨⟨⟨hGl,hA,hB,hC⟩,hz2⟩,hz3⟩,hs61⟩,h65⟩,_⟩,_⟩,hrow⟩,_⟩,h117⟩,h118⟩,h119⟩,hs120⟩,h121⟩,h127⟩=>Xa4 (a:=c127) (l0:=pc) (l1:=pa) (l2:=pb) (p:=(JQ (A++B))) (w0:=C) (w1:=A) (w2:=B) (cap:=3) hF hGl h127 (Q4.of (n:=3) (sz:=1) (cs:=[pc,pa,pb].map fun e=>e.1.v) hs61 rfl) (hC.eq eC) (hA.eq eA) (hB.eq eB) qsu qc qa qb (yG fws (by decide) (by decide) (by decide)) qon) (fun c133=>?_)
     refine JS_mv rfl<|QA (QK rfl rfl)<|QA (QK rfl rfl)<|JS_as rfl<|JS_as rfl<|JS_nt<|J_sr<|JS_mv rfl<|JS_mv rfl ?_
     refine QH rfl (fun w F hF ⟨⟨⟨⟨⟨⟨⟨⟨⟨⟨⟨⟨⟨⟨⟨⟨hGl,hA,hB,hC⟩,hz2⟩,hz3⟩,hs61⟩,h65⟩,_⟩,_⟩,hrow⟩,_⟩,h117⟩,h118⟩,h119⟩,hs120⟩,h121⟩,h127⟩,h133⟩=>Xa4 (a:=pb) (l0:=pc) (l1:=pa) (l2:=pb) (p:=B) (w0:=C) (w1:=A) (w2:=B) (cap:=3) hF hGl (hB.eq eB) (Q4.of (n:=3) (sz:=1) (cs:=[pc,pa,pb].map fun e=>e.1.v) hs61 rfl) (hC.eq eC) (hA.eq eA) (hB.eq eB) qb qc qa qb (yG fwb (by decide) (by decide) (by decide)) qot) (fun c139=>?_)
     refine JS_mv rfl<|QA (QK rfl rfl)<|QA (QK rfl rfl)<|JS_as rfl<|JS_as rfl<|JS_nt<|J_sr<|JS_mv rfl<|JS_mv rfl ?_
     refine QH rfl (fun w F hF h9=>yQ (a:=c65) (b:=c139) (p:=(WS [C,A,B] 3 A)) (q:=(WS [C,A,B] 3 B)) (k:=3) (v:=2) hF h9.1.1.1.1.1.1.1.1.1.1.1.1.1.1.1.1.1 h9.1.1.1.1.1.1.1.1.1.1.1.1.2 h9.2 rfl (by decide) qwh qot qtw) (fun c145=>?_)
     refine JS_mv rfl<|QA (QK rfl rfl)<|QA (QK rfl rfl)<|JS_as rfl<|JS_as rfl<|JS_nt<|J_sr<|JS_mv rfl<|JS_mv rfl<|QA (Qp rfl rfl (by omega))<|JS_mv rfl<|QA (Qp rfl rfl (by omega))<|JS_mv rfl<|QA (Qp rfl rfl (by omega))<|JS_mv rfl<|QA (Qp rfl rfl (by omega))<|QA (QU rfl rfl rfl)<|JS_mv rfl<|QJ rfl rfl<|JS_mv rfl<|QJ rfl rfl<|JS_mv rfl<|QJ rfl rfl ?_
     refine QH rfl (fun w F hF h9=>LF (a:=c121) (b:=pa) (k:=3) hF h9.1.1.1.1.2 (h9.1.1.1.1.1.1.1.1.1.1.1.1.1.1.1.1.1.2.1.eq eA) (by decide) qsa esa) (fun _=>?_)
     refine QA (Qj rfl rfl rfl)<|JS_mv rfl<|QJ rfl rfl<|JS_mv rfl<|QJ rfl rfl<|JS_mv rfl<|QJ rfl rfl ?_
     refine QH rfl (fun w F hF h9=>LF (a:=c133) (b:=c145) (k:=3) hF h9.1.1.1.2 h9.1.2 (by decide) qon esm) (fun _=>?_)
     refine QA (Qj rfl rfl rfl)<|JS_as rfl<|JS_nt<|QS ?_
     exact F_r1 rfl rfl (rfl) (fun F h9=>trivial)
end
end Go.Proofs.YtknegjaeoffnbaaGreatDoor
