/- Steps of the proof of the theorem in the last file. -/
import Derived.Test.YtknegjaeoffnbaaGreatDoorQ0
import Derived.Test.YtknegjaeoffnbaaGreatDoorProg
import Derived.KernelRfl
import Derived.OpenShut
set_option linter.all false
set_option maxHeartbeats 4000000
namespace Go.Proofs.YtknegjaeoffnbaaGreatDoor
section
theorem MQ:GF Tryz.prog 22=true:=by kernel_rfl
theorem Xi6:Hp Tryz.prog 51=some 122:=by kernel_rfl
theorem Xi8:Wc Tryz.prog 94 0=some (0,52):=by kernel_rfl
theorem Xje:Wc Tryz.prog 94 1=some (1,52):=by kernel_rfl
theorem Xjd:Wc Tryz.prog 94 2=some (2,22):=by kernel_rfl
end
section
open Go.RowKit Go.ChangeShapes Go.WideShapes Ig
theorem Xa6 {α:Type} {f:α→List Value} {k off:Nat} {c:Array Value} (hf:∀ x,(f x).length=k):∀ (l:List α) (i0:Nat),(∀ i x,l[i]?=some x→∀ j,j<k→c[off+(i0+i)*k+j]?=(f x)[j]?)→∀ p u,(l.flatMap f)[p]?=some u→c[off+i0*k+p]?=some u
 |[],_,_,p,u,e=>by simp at e
 |x::l,i0,h,p,u,e=>by
  rw [List.flatMap_cons] at e
  rcases Nat.lt_or_ge p k with g | g
  ·rw [List.getElem?_append_left (by rw [hf];exact g)] at e
   have:=h 0 x rfl p g
   rw [Nat.add_zero] at this
   rw [this,e]
  ·rw [List.getElem?_append_right (by rw [hf];exact g),hf] at e
   have:=Xa6 hf l (i0+1) (fun i y hy j hj=>by
    have:=h (i+1) y (by simpa using hy) j hj
    rwa [show i0+(i+1)=i0+1+i by omega] at this) (p - k) u e
   rwa [show off+(i0+1)*k+(p - k)=off+i0*k+p by rw [Nat.add_mul,Nat.one_mul];omega] at this
theorem Xam {b off n:Nat}:(⟨b,off,none⟩:Addr).add n=⟨b,off+n,none⟩:=by
 unfold Addr.add
 split
 ·rename_i h;rw [h,Nat.add_zero]
 ·rfl
section
variable {H:Type} {enc:TypeId×Value→H} {w:World}
theorem Xab {a:Addr} {n:Nat} {cs:List Value} (h:w.cells? 0 a n=some cs):cs.length=n∧∀ i,i<n→w.cell? (a.add i)=cs[i]?:=by
 unfold World.cells? at h
 rw [if_pos (Nat.zero_le _)] at h
 exact⟨by simpa using mapM_some_length h,fun i hi=>by simpa using mapM_some_get h i i (by simp [hi])⟩
theorem Xax {fuel:Nat} {cs:List Value} {x:DataW H×List MemPlace} {t e:TypeId} {sz:Nat} {α:Type} {f:α→List Value} {Q:α→Prop} (ht:Tryz.prog.underlying t=some (.slice e)) (hc:Tryz.prog.cellsOf e=sz) (h0:0<sz) (hf:∀ x,(f x).length=sz)
  (hel:∀ (n:Nat) (cs:List Value) (x:DataW H×List MemPlace),DataW.trod enc Tryz.prog w 0 (fun _=>true) true n e cs=some x→∃ y,cs=f y∧Q y)
  (hh:DataW.trod enc Tryz.prog w 0 (fun _=>true) true fuel t cs=some x) :
  ∃ (q:Option Addr) (n cap:Nat) (l:List α),cs=[.slice q n cap]∧Q9 (BP w) q n sz (l.flatMap f)∧l.length=n∧n≤9223372036854775807∧(∀ y∈l,Q y)∧n≤cap:=by
 rcases DataW.trod_slice ht hh with ⟨e0,_⟩ | ⟨a',len,cap,elems,rest,n,_,e0,_,_,h1,h2,hlen,hg,_,_⟩
 ·exact⟨none,0,0,[],e0,Q9.nil _ _ _,rfl,Nat.zero_le _,fun y hy=>(by cases hy),Nat.le_refl _⟩
 ·subst e0
  rw [hc] at hg
  have key:∀ i,i<len→∃ y:α,w.cells? 0 (a'.add (i*sz)) sz=some (f y)∧Q y:=fun i hi=>by
   have e:=hg i hi
   rw [List.getElem?_eq_getElem (by omega),Option.bind_eq_some_iff] at e
   obtain ⟨cs,hcs,htr⟩:=e
   obtain ⟨y,rfl,hq⟩:=hel _ _ _ htr
   exact⟨y,hcs,hq⟩
  have hm:len≤9223372036854775807:=by have:=h2;unfold maxLen at this;omega
  have build:∀ m,m≤len→∃ l:List α,l.length=m∧(∀ i x,l[i]?=some x→w.cells? 0 (a'.add (i*sz)) sz=some (f x))∧∀ y∈l,Q y:=by
   intro m
   induction m with
   |zero=>exact fun _=>⟨[],rfl,fun i x e=>by simp at e,fun y hy=>by cases hy⟩
   |succ m ih =>
    intro hm'
    obtain ⟨l,hl,hx,hQ⟩:=ih (by omega)
    obtain ⟨y,hy,hq⟩:=key m (by omega)
    refine⟨l++[y],by simp [hl],fun i x e=>?_,fun z hz=>by rcases List.mem_append.1 hz with hz | hz;exact hQ z hz;rw [List.mem_singleton.1 hz];exact hq⟩
    rcases Nat.lt_or_ge i m with g | g
    ·rw [List.getElem?_append_left (by omega)] at e;exact hx i x e
    ·have:i=m:=by
      have:=(List.getElem?_eq_some_iff.1 e).1
      simp at this;omega
     subst this
     rw [List.getElem?_append_right (by omega),hl,Nat.sub_self] at e
     simp only [List.getElem?_cons_zero,Option.some.injEq] at e
     rw [← e];exact hy
  obtain ⟨l,hl,hx,hQ⟩:=build len (Nat.le_refl _)
  refine⟨some a',len,cap,l,rfl,⟨?_,fun hn=>?_⟩,hl,hm,hQ,h1⟩
  ·rw [List.length_flatMap]
   have:∀ l:List α,(l.map fun x=>(f x).length).sum=l.length*sz:=fun l=>by
    induction l with
    |nil=>simp
    |cons x l ih=>rw [List.map_cons,List.sum_cons,ih,hf,List.length_cons,Nat.add_mul];omega
   rw [this,hl]
  ·have c0:=hx 0 (l[0]'(by omega)) (List.getElem?_eq_getElem _)
   have g0:=(Xab c0).2 0 h0
   have hs:(f (l[0]'(by omega)))[0]?=some ((f (l[0]'(by omega)))[0]'(by rw [hf];exact h0)):=List.getElem?_eq_getElem _
   rw [hs,Nat.zero_mul] at g0
   have ea:(a'.add 0).add 0=a':=rfl
   rw [ea] at g0
   obtain ⟨b',off,spot⟩:=a'
   unfold World.cell? at g0
   split at g0
   ·rename_i c T fr hheap
    split at g0
    ·cases g0
    ·rename_i hsp
     have:spot=none:=by cases spot with
      |none=>rfl
      |some s=>simp at hsp
     subst this
     refine⟨b',off,c,T,rfl,by unfold BP;rw [hheap],fun j u hu=>?_⟩
     have:=Xa6 (off:=off) (c:=c) hf l 0 (fun i x e j hj=>?_) j u hu
     ·rwa [Nat.zero_mul,Nat.add_zero] at this
     ·have:=(Xab (hx i x e)).2 j hj
      rw [Xam,Xam] at this
      unfold World.cell? at this
      rw [hheap] at this
      simpa using this
   ·cases g0
end
end
section
open Go.RowKit Ig
theorem O8 {w:World} {F:Gs} {s:List UInt8} (hF:Fits F w) (hl:s.length≤1000000000):QZ Tryz.prog 175 [tx s] w F (.bool (XF s)):=by
 refine QS.intro (G:=fun _=>True) Tryz.func175 rfl (by rfl) rfl rfl hF (fun F' hF'=>trivial)<|J_sr<|JS_as rfl<|JS_nt<|QG<|J_sr<|JS_as rfl<|JS_nt<|Qa<|XU (ι:=Hl s.length (fun i=>(s.take i).all T6=true)) (fun i=>[(0,tx s),(3,.int .i64 i.i)]) (fun _=>[]) (fun _ _=>True) (fun i=>s.length - i.i) ⟨0,Nat.zero_le _,rfl⟩ ⟨rfl,rfl,trivial⟩ subl_r (fun _ h=>trivial) (fun i=>?_)
 have hle:=i.le
 refine QG<|J_sr<|JS_mv rfl<|JS_mv rfl<|QA (J9 rfl Xh)<|QA (QV rfl rfl rfl)<|QE<|QC ?_
 refine QR rfl (fun hc=>?_) (fun hc=>?_)
 ·
  have hi:i.i<s.length:=by simp at hc;omega
  clear hc
  refine QP<|QC<|QG<|Qa<|J_sr<|JS_mv rfl<|JS_mv rfl<|QA (Vn rfl rfl Xh (hi))<|QA (QV rfl rfl rfl)<|JS_mv rfl ?_
  refine Qn (t:=14) rfl (fun hb14=>?_) (fun hb14=>?_)
  ·
   refine QO rfl rfl rfl<|QO rfl rfl rfl<|QO rfl rfl rfl<|QO rfl rfl rfl<|QA (Qi rfl rfl rfl)<|JS_nt<|WT rfl<|J_sr<|JS_as rfl<|JS_nt<|QT ?_
   repeat (first | refine JJ ?_ | refine JA ?_)
   exact QQ () rfl (.tmp rfl .nil) (congrArg Value.bool (by rw [RW hi (by have h1:=dec_t hb14;cases hd:T6 s[i.i] with | false=>rfl | true=>(have:=YZ.1 hd;omega))])) (fun _ _=>trivial)
  ·
   refine QL rfl rfl<|JS_mv rfl<|QL rfl rfl<|JS_mv rfl<|QL rfl rfl<|QA (Vn rfl rfl Xh (hi))<|QL rfl rfl<|QA (QV rfl rfl rfl)<|QA (Qh rfl rfl rfl)<|QE<|QC ?_
   refine QR rfl (fun hc=>?_) (fun hc=>?_)
   ·
    refine J_sr<|JS_as rfl<|JS_nt<|QT ?_
    repeat (first | refine JJ ?_ | refine JA ?_)
    exact QQ () rfl (.tmp rfl .nil) (congrArg Value.bool (by rw [RW hi (by have h1:=dec_t hc;cases hd:T6 s[i.i] with | false=>rfl | true=>(have:=YZ.1 hd;omega))])) (fun _ _=>trivial)
   ·
    refine QP<|Qk<|QC<|QB<|JS_mv rfl<|QA (Qu rfl rfl (by omega))<|JS_as rfl<|QE ?_
    exact Qo (⟨i.i+1,by omega,DY hi i.h (YZ.2 (by have h1:=dec_f hb14;have h2:=dec_f hc;constructor<;>omega))⟩:Hl s.length (fun i=>(s.take i).all T6=true)) (by show s.length - (i.i+1)<s.length - i.i;omega) ⟨rfl,rfl,trivial⟩ subl_r (fun _ h=>trivial)
 ·
  refine Q5 ?_
  repeat (first | refine Qd ?_ | refine QW (by rfl) ?_)
  refine Qe<|QC<|J_sr<|JS_as rfl<|JS_nt<|QT ?_
  exact QQ () rfl (.tmp rfl .nil) (congrArg Value.bool (by have e:=i.h;rw [List.take_of_length_le (by simp at hc;omega)] at e;exact e)) (fun _ _=>trivial)
theorem kc {s:List UInt8} (h1:(1:Int)<(s.length:Int)) (h:s[0]'(by omega)=48):XV s=false:=by
 cases s with
 |nil=>simp at h1
 |cons c r =>
  have hc:c=48:=h
  subst hc
  have hr:r≠[]:=by intro e;subst e;simp at h1
  simp [XV,hr]
theorem yL {s:List UInt8} (h1:(1:Int)<(s.length:Int)) (h:¬ s[0]'(by omega)=48):XV s=XF s:=by
 cases s with
 |nil=>simp at h1
 |cons c r =>
  have hc:¬ c=48:=h
  simp [XV,hc]
theorem kb {s:List UInt8} (h0:0<s.length) (h1:s.length≤1):XV s=XF s:=by
 match s,h0,h1 with
 |[c],_,_ =>
  by_cases hc:c=48
  ·subst hc;rfl
  ·simp [XV,hc]
theorem zU {w:World} {F:Gs} {s:List UInt8} (hF:Fits F w) (hl:s.length≤1000000000):QZ Tryz.prog 118 [tx s] w F (.bool (XV s)):=by
 refine QS.intro (G:=fun _=>True) Tryz.func118 rfl (by rfl) rfl rfl hF (fun F' hF'=>trivial)<|J_sr<|JS_as rfl<|JS_nt<|QG<|J_sr<|JS_mv rfl<|QA (J9 rfl Xh)<|QA (QV rfl rfl rfl)<|JS_mv rfl ?_
 refine Qn (t:=6) rfl (fun hb6=>?_) (fun hb6=>?_)
 ·
  refine QO rfl rfl rfl<|QO rfl rfl rfl<|QO rfl rfl rfl<|QO rfl rfl rfl<|JV rfl rfl<|JV rfl rfl<|JV rfl rfl<|QO rfl rfl rfl<|QA (Qi rfl rfl rfl)<|JS_nt<|WT rfl<|J_sr<|JS_as rfl<|JS_nt<|QT ?_
  exact QQ () rfl (.tmp rfl .nil) (congrArg Value.bool (by have h0:s=[]:=(by simpa using hb6);subst h0;rfl)) (fun _ _=>trivial)
 ·
  refine QL rfl rfl<|JS_mv rfl<|QL rfl rfl<|QA (J9 rfl Xh)<|QL rfl rfl<|QA (QV rfl rfl rfl)<|QL rfl rfl<|JS_mv rfl ?_
  refine Qn (t:=10) rfl (fun hb10=>?_) (fun hb10=>?_)
  ·
   refine QL rfl rfl<|JS_mv rfl<|QL rfl rfl<|QA (Vn (i:=0) rfl rfl Xh (by have:=dec_t hb10;omega))<|QL rfl rfl<|QA (QV rfl rfl rfl)<|QL rfl rfl<|QA (Qi rfl rfl rfl)<|QA (Qh rfl rfl rfl)<|QE<|QC ?_
   refine QR rfl (fun hc=>?_) (fun hc=>?_)
   ·
    refine J_sr<|JS_as rfl<|JS_nt<|QT ?_
    exact QQ () rfl (.tmp rfl .nil) (congrArg Value.bool (kc (dec_t hb10) (by have h:=hc;rw [MD (d:=48) (z:=48) rfl] at h;simpa using h))) (fun _ _=>trivial)
   ·
    refine QP<|QC<|J_sr<|JS_mv rfl<|QI rfl (fun w F hF _=>O8 hF hl) (fun _=>JS_as rfl<|JS_nt<|QT ?_)
    exact QQ () rfl (.tmp rfl .nil) (congrArg Value.bool (yL (dec_t hb10) (by have h:=hc;rw [MD (d:=48) (z:=48) rfl] at h;simpa using h))) (fun _ _=>trivial)
  ·
   refine QO rfl rfl rfl<|QO rfl rfl rfl<|QO rfl rfl rfl<|QL rfl rfl<|QA (Qh rfl rfl rfl)<|QA (Qh rfl rfl rfl)<|JS_nt<|Z8 rfl<|QP<|QC<|J_sr<|JS_mv rfl<|QI rfl (fun w F hF _=>O8 hF hl) (fun _=>JS_as rfl<|JS_nt<|QT ?_)
   exact QQ () rfl (.tmp rfl .nil) (congrArg Value.bool (kb (List.length_pos_iff.2 (by simpa using hb6)) (by have h:=dec_f hb10;omega))) (fun _ _=>trivial)
end
section
open Go.RowKit Ig
def xX (s:List UInt8):List UInt8:=if NW s<0 then s.drop 1 else if NW s=0 then s else 45::s
def BJ (s:List UInt8):Int:=if(decide (600<(O4 (numOf s)).length)||decide (600<(T8 s).length))=true then 4 else 0
theorem Bi (p:UInt8→Bool) (s:List UInt8):ahead p s≤s.length:=(List.takeWhile_sublist _).length_le
theorem AY {s:List UInt8} (h:NW s<0):0<s.length:=by
 cases s with
 |nil=>exact absurd h (by decide)
 |cons=>simp
theorem Ad {w:World} {F:Gs} {s:List UInt8} (hF:Fits F w):QZ Tryz.prog 38 [tx s] w F (.int .i64 (NW s)):=by
 refine QS.intro (G:=fun _=>True) Tryz.func38 rfl (by rfl) rfl rfl hF (fun F' hF'=>trivial)<|J_sr<|JS_as rfl<|JS_nt<|QG<|J_sr<|JS_mv rfl<|QA (K3 rfl rfl)<|QE<|QC ?_
 refine QR rfl (fun hc4=>?_) (fun hc4=>?_)
 ·
  refine J_sr<|JS_as rfl<|JS_nt<|QT ?_
  exact QQ () rfl (.tmp rfl .nil) (congrArg (Value.int .i64) (by unfold NW;rw [if_pos (by simpa using hc4)])) (fun _ _=>trivial)
 ·
  refine QP<|QC<|QG<|J_sr<|JS_mv rfl<|QA (J9 rfl MQ)<|QA (QV rfl rfl rfl)<|JS_mv rfl ?_
  refine Qn (t:=8) rfl (fun hb8=>?_) (fun hb8=>?_)
  ·
   refine QL rfl rfl<|JS_mv rfl<|QL rfl rfl<|QA (Vn (i:=0) rfl rfl MQ (by have:=dec_t hb8;omega))<|QL rfl rfl<|QA (QV rfl rfl rfl)<|QA (Qi rfl rfl rfl)<|QE<|QC ?_
   refine QR rfl (fun hc=>?_) (fun hc=>?_)
   ·
    refine J_sr<|JS_as rfl<|JS_nt<|QT ?_
    exact QQ () rfl (.tmp rfl .nil) (congrArg (Value.int .i64) (by unfold NW;rw [if_neg (by simpa using hc4),if_pos];rw [Wr (by have:=dec_t hb8;omega),← MD (z:=45) rfl];exact hc)) (fun _ _=>trivial)
   ·
    refine QP<|QC<|J_sr<|JS_as rfl<|JS_nt<|QT ?_
    exact QQ () rfl (.tmp rfl .nil) (congrArg (Value.int .i64) (by unfold NW;rw [if_neg (by simpa using hc4),if_neg];rw [Wr (by have:=dec_t hb8;omega),← MD (z:=45) rfl,hc];decide)) (fun _ _=>trivial)
  ·
   refine QO rfl rfl rfl<|QO rfl rfl rfl<|QO rfl rfl rfl<|QA (Qh rfl rfl rfl)<|JS_nt<|Z8 rfl<|QP<|QC<|J_sr<|JS_as rfl<|JS_nt<|QT ?_
   exact QQ () rfl (.tmp rfl .nil) (congrArg (Value.int .i64) (by have h0:s=[]:=(by have:=hb8;simp at this;exact this);subst h0;rfl)) (fun _ _=>trivial)
theorem y2 {w:World} {F:Gs} {s:List UInt8} (hF:Fits F w) (hl:s.length≤1000000000):QZ Tryz.prog 35 [tx s] w F (tx (xX s)):=by
 refine QS.intro (G:=fun _=>True) Tryz.func35 rfl (by rfl) rfl rfl hF (fun F' hF'=>trivial)<|J_sr<|JS_as rfl<|JS_nt<|QG<|J_sr<|JS_mv rfl<|QI rfl (fun w F hF _=>Ad hF ) (fun _=>QA (QV rfl rfl rfl)<|QE<|QC ?_)
 refine QR rfl (fun hc5=>?_) (fun hc5=>?_)
 ·
  refine J_sr<|JS_mv rfl<|QA (Kd 1 rfl rfl MQ rfl (AY (dec_t hc5)))<|JS_as rfl<|JS_nt<|QT ?_
  exact QQ () rfl (.tmp rfl .nil) (congrArg tx (by unfold xX;rw [if_pos (dec_t hc5)])) (fun _ _=>trivial)
 ·
  refine QP<|QC<|QG<|J_sr<|JS_mv rfl<|QI rfl (fun w F hF ⟨_,_⟩=>Ad hF ) (fun _=>QA (QV rfl rfl rfl)<|QE<|QC ?_)
  refine QR rfl (fun hc10=>?_) (fun hc10=>?_)
  ·
   refine J_sr<|JS_mv rfl<|JS_as rfl<|JS_nt<|QT ?_
   exact QQ () rfl (.tmp rfl .nil) (congrArg tx (by unfold xX;rw [if_neg (dec_f hc5),if_pos (by simpa using hc10)])) (fun _ _=>trivial)
  ·
   refine QP<|QC<|J_sr<|JS_mv rfl<|QA (Zc rfl rfl (by simp;omega))<|JS_as rfl<|JS_nt<|QT ?_
   exact QQ () rfl (.tmp rfl .nil) (congrArg tx (by unfold xX;rw [if_neg (dec_f hc5),if_neg (by simpa using hc10)];rfl)) (fun _ _=>trivial)
theorem gq {w:World} {F:Gs} {s:List UInt8} (hF:Fits F w):QZ Tryz.prog 33 [tx s] w F (tx (O4 s)):=by
 refine QS.intro (G:=fun _=>True) Tryz.func33 rfl (by rfl) rfl rfl hF (fun F' hF'=>trivial)<|J_sr<|JS_as rfl<|JS_nt<|QG<|J_sr<|JS_mv rfl<|QI rfl (fun w F hF _=>Ad hF ) (fun _=>QA (QV rfl rfl rfl)<|QE<|QC ?_)
 refine QR rfl (fun hc=>?_) (fun hc=>?_)
 ·
  refine J_sr<|JS_mv rfl<|QA (Kd 1 rfl rfl MQ rfl (AY (dec_t hc)))<|JS_as rfl<|JS_nt<|QT ?_
  exact QQ () rfl (.tmp rfl .nil) (congrArg tx (by unfold O4;rw [if_pos (dec_t hc)])) (fun _ _=>trivial)
 ·
  refine QP<|QC<|J_sr<|JS_mv rfl<|JS_as rfl<|JS_nt<|QT ?_
  exact QQ () rfl (.tmp rfl .nil) (congrArg tx (by unfold O4;rw [if_neg (dec_f hc)])) (fun _ _=>trivial)
theorem Xk5 {w:World} {F:Gs} {s:List UInt8} (hF:Fits F w):QZ Tryz.prog 94 [tx s] w F (.bool (s==[48])):=by
 refine QS.intro (G:=fun _=>True) Tryz.func94 rfl (by rfl) rfl rfl hF (fun F' hF'=>trivial)<|J_sr<|JS_as rfl<|JS_nt<|J_sr<|JS_mv rfl<|QA (K3 rfl rfl)<|JS_as rfl<|JS_nt<|QT ?_
 exact QQ () rfl (.tmp rfl .nil) (rfl) (fun _ _=>trivial)
theorem gn {w:World} {F:Gs} {s:List UInt8} (hF:Fits F w) (hl:s.length≤1000000000):QZ Tryz.prog 204 [tx s] w F (tx (numOf s)):=by
 refine QS.intro (G:=fun _=>True) Tryz.func204 rfl (by rfl) rfl rfl hF (fun F' hF'=>trivial)<|J_sr<|JS_as rfl<|JS_nt<|J_sr<|JS_mv rfl<|JS_mv rfl<|QI rfl (fun w F hF _=>BA hF hl) (fun _=>QA (Gx (ahead XS s) rfl rfl MQ rfl (Bi _ _))<|JS_as rfl<|JS_nt<|QT ?_)
 exact QQ () rfl (.tmp rfl .nil) (rfl) (fun _ _=>trivial)
theorem gp {w:World} {F:Gs} {s:List UInt8} (hF:Fits F w) (hl:s.length≤1000000000):QZ Tryz.prog 205 [tx s] w F (tx (T8 s)):=by
 refine QS.intro (G:=fun _=>True) Tryz.func205 rfl (by rfl) rfl rfl hF (fun F' hF'=>trivial)<|J_sr<|JS_as rfl<|JS_nt<|J_sr<|JS_mv rfl<|QI rfl (fun w F hF _=>BA hF hl) (fun _=>JS_as rfl<|JS_nt<|QG<|J_sr<|JS_mv rfl<|JS_mv rfl<|QA (J9 rfl MQ)<|QA (QV rfl rfl rfl)<|QE<|QC ?_)
 refine QR rfl (fun hc=>?_) (fun hc=>?_)
 ·
  refine J_sr<|JS_as rfl<|JS_nt<|QT ?_
  exact QQ () rfl (.tmp rfl .nil) (congrArg tx (by unfold T8;rw [if_pos (by simp at hc;omega)])) (fun _ _=>trivial)
 ·
  refine QP<|QC<|J_sr<|JS_mv rfl<|JS_mv rfl<|QA (Qu rfl rfl (by have:=Bi XS s;omega))<|QA (Kd (ahead XS s+1) rfl rfl MQ rfl (by have:=Bi XS s;simp at hc;omega))<|JS_as rfl<|JS_nt<|QT ?_
  exact QQ () rfl (.tmp rfl .nil) (congrArg tx (by unfold T8;rw [if_neg (by simp at hc;omega)])) (fun _ _=>trivial)
theorem y3 {w:World} {F:Gs} {s:List UInt8} (hF:Fits F w) (hl:s.length≤1000000000):QZ Tryz.prog 124 [tx s] w F (.int .i64 (BJ s)):=by
 refine QS.intro (G:=fun _=>True) Tryz.func124 rfl (by rfl) rfl rfl hF (fun F' hF'=>trivial)<|J_sr<|JS_as rfl<|JS_nt<|QG<|J_sr<|JS_mv rfl<|QI rfl (fun w F hF _=>gn hF hl) (fun _=>QI rfl (fun w F hF ⟨_,_⟩=>gq hF ) (fun _=>QA (J9 rfl MQ)<|QA (QV rfl rfl rfl)<|JS_mv rfl ?_))
 refine Qn (t:=8) rfl (fun hb8=>?_) (fun hb8=>?_)
 ·
  refine QO rfl rfl rfl<|QO rfl rfl rfl<|QO rfl rfl rfl<|QO rfl rfl rfl<|QA (Qi rfl rfl rfl)<|JS_nt<|WT rfl<|J_sr<|JS_as rfl<|JS_nt<|QT ?_
  exact QQ () rfl (.tmp rfl .nil) (congrArg (Value.int .i64) (by have h:=dec_t hb8;unfold BJ;rw [if_pos (by rw [decide_eq_true (by omega)];rfl)])) (fun _ _=>trivial)
 ·
  refine QL rfl rfl<|JS_mv rfl<|QL rfl rfl<|QI rfl (fun w F hF ⟨⟨_,_⟩,_⟩=>gp hF hl) (fun _=>QL rfl rfl<|QA (J9 rfl MQ)<|QL rfl rfl<|QA (QV rfl rfl rfl)<|QA (Qh rfl rfl rfl)<|QE<|QC ?_)
  refine QR rfl (fun hc=>?_) (fun hc=>?_)
  ·
   refine J_sr<|JS_as rfl<|JS_nt<|QT ?_
   exact QQ () rfl (.tmp rfl .nil) (congrArg (Value.int .i64) (by have h:=dec_t hc;unfold BJ;rw [if_pos (by rw [decide_eq_true (show 600<(T8 s).length by omega),Bool.or_true])])) (fun _ _=>trivial)
  ·
   refine QP<|QC<|J_sr<|JS_as rfl<|JS_nt<|QT ?_
   exact QQ () rfl (.tmp rfl .nil) (congrArg (Value.int .i64) (by have h:=dec_f hc;have h8:=dec_f hb8;unfold BJ;rw [if_neg (by rw [decide_eq_false (by omega),decide_eq_false (by omega)];decide)])) (fun _ _=>trivial)
end
section
open Go.RowKit Ig
theorem yj {d:Nat} (h:d<10):(([48,49,50,51,52,53,54,55,56,57]:List UInt8).take (d+1)).drop d=[UInt8.ofNat (48+d)]:=by
 match d,h with
 |0,_=>rfl
 |1,_=>rfl
 |2,_=>rfl
 |3,_=>rfl
 |4,_=>rfl
 |5,_=>rfl
 |6,_=>rfl
 |7,_=>rfl
 |8,_=>rfl
 |9,_=>rfl
theorem xF {w:World} {F:Gs} {n least:Nat} (hF:Fits F w) (hn:n≤9223372036854775807) (hl:least≤1000):QZ Tryz.prog 182 [.int .i64 (n:Int),.int .i64 (least:Int)] w F (tx (NU n least)):=by
 refine QS.intro (G:=fun _=>True) Tryz.func182 rfl (by rfl) rfl rfl hF (fun F' hF'=>trivial)<|J_sr<|JS_as rfl<|JS_nt<|J_sr<|JS_as rfl<|JS_nt<|QG<|Qa<|XU (ι:=O5 n least) (fun i=>[(0,.int .i64 (i.m:Int)),(1,.int .i64 (least:Int)),(5,tx i.t)]) (fun _=>[]) (fun _ _=>True) (fun i=>i.m+(least - i.t.length)) ⟨n,[],Nat.le_refl _,by unfold NU;simp,by have:=OP hn;simp;omega⟩ ⟨rfl,rfl,rfl,trivial⟩ subl_r (fun _ h=>trivial) (fun i=>?_)
 have hle:=i.le
 have htl:=i.tl
 refine QG<|J_sr<|JS_mv rfl<|QA (QV rfl rfl rfl)<|JS_mv rfl ?_
 refine Qn (t:=8) rfl (fun hb8=>?_) (fun hb8=>?_)
 ·
  refine QO rfl rfl rfl<|QO rfl rfl rfl<|QO rfl rfl rfl<|QO rfl rfl rfl<|QA (Qi rfl rfl rfl)<|JS_nt<|WT rfl<|QP<|QC<|Qa<|J_sr<|JS_mv rfl<|QA (Kc rfl rfl (by omega) (by omega))<|JS_mv rfl<|QA (Kc rfl rfl (by omega) (by omega))<|QA (Qu rfl rfl (by omega))<|QA (MY (i.m%10) (i.m%10+1) rfl rfl rfl Xh (.inr rfl) (.inr rfl) (by omega) (by show i.m%10+1≤10;omega)) ?_
  rw [yj (Nat.mod_lt _ (by decide))]
  refine JS_mv rfl<|QA (Zc rfl rfl (by simp;omega))<|JS_as rfl<|JS_nt<|QB<|JS_mv rfl<|QA (Wb rfl rfl (by omega) (by omega) (by omega))<|JS_as rfl<|QE<|Qk ?_
  exact Qo (O5.next i (Or.inl (by have:=dec_t hb8;omega):0<i.m∨i.t.length<least)) (by show i.m / 10+(least - (i.t.length+1))<i.m+(least - i.t.length);rcases (Or.inl (by have:=dec_t hb8;omega):0<i.m∨i.t.length<least) with g | g<;>omega) ⟨rfl,rfl,rfl,trivial⟩ subl_r (fun _ h=>trivial)
 ·
  refine QL rfl rfl<|JS_mv rfl<|QL rfl rfl<|QA (J9 rfl Xh)<|QL rfl rfl<|JS_mv rfl<|QL rfl rfl<|QA (QV rfl rfl rfl)<|QA (Qh rfl rfl rfl)<|QE<|QC ?_
  refine QR rfl (fun hc=>?_) (fun hc=>?_)
  ·
   refine QP<|QC<|Qa<|J_sr<|JS_mv rfl<|QA (Kc rfl rfl (by omega) (by omega))<|JS_mv rfl<|QA (Kc rfl rfl (by omega) (by omega))<|QA (Qu rfl rfl (by omega))<|QA (MY (i.m%10) (i.m%10+1) rfl rfl rfl Xh (.inr rfl) (.inr rfl) (by omega) (by show i.m%10+1≤10;omega)) ?_
   rw [yj (Nat.mod_lt _ (by decide))]
   refine JS_mv rfl<|QA (Zc rfl rfl (by simp;omega))<|JS_as rfl<|JS_nt<|QB<|JS_mv rfl<|QA (Wb rfl rfl (by omega) (by omega) (by omega))<|JS_as rfl<|QE<|Qk ?_
   exact Qo (O5.next i (Or.inr (by have:=dec_t hc;omega):0<i.m∨i.t.length<least)) (by show i.m / 10+(least - (i.t.length+1))<i.m+(least - i.t.length);rcases (Or.inr (by have:=dec_t hc;omega):0<i.m∨i.t.length<least) with g | g<;>omega) ⟨rfl,rfl,rfl,trivial⟩ subl_r (fun _ h=>trivial)
  ·
   refine Q5 ?_
   repeat (first | refine Qd ?_ | refine QW (by rfl) ?_)
   refine Qe<|QC<|J_sr<|JS_mv rfl<|JS_as rfl<|JS_nt<|QT ?_
   exact QQ () rfl (.tmp rfl .nil) (congrArg tx (by have h1:=dec_f hb8;have h2:=dec_f hc;have h0:i.m=0:=(by omega);rw [← i.h,h0];simp [hd,VM,show least - i.t.length=0 by omega,Lib.repeatL])) (fun _ _=>trivial)
end
section
open Go.RowKit Ig
theorem vc {a b out:List Int} {c:Int} (da:DG B9 out) (hl:out.length=a.length) (hb:b.length≤a.length) (h:dv B9 out+dv B9 (b.take a.length)=dv B9 (a.take a.length)+B9^a.length*c) (h0:0≤c) (h1:c≤1) (hle:dv B9 b≤dv B9 a):dv B9 out=dv B9 a - dv B9 b:=by
 rw [List.take_length,List.take_of_length_le hb] at h
 have hlt:=Zw (b:=B9) (by decide) da
 rw [hl] at hlt
 have hc:c=0∨c=1:=by omega
 rcases hc with rfl | rfl
 ·rw [Int.mul_zero] at h;omega
 ·rw [Int.mul_one] at h;omega
theorem Ac {w:World} {F:Gs} {ra rb:Sr} {a b:List Int} (hF:Fits F w) (hA:JP F ra a) (hB:JP F rb b) (da:DG B9 a) (db:DG B9 b) (la:a.length≤100000000) (lb:b.length≤a.length) (hle:dv B9 b≤dv B9 a) :
  E7 Tryz.prog 239 [ra.v,rb.v] w F (fun l=>dv B9 l=dv B9 a - dv B9 b∧NZ l∧l.length≤a.length):=by
 obtain ⟨q,n,c⟩:=ra
 have na:=hA.2.1
 have nb:=hB.2.1
 dsimp only at na
 have h9:B9=1000000000:=rfl
 refine QS.intro (G:=fun F=>JP F ⟨q,n,c⟩ a∧JP F rb b) Tryz.func239 rfl (by rfl) rfl rfl hF (fun F' hF'=>⟨hA.le hF',hB.le hF'⟩) ?_
 dsimp only [Sr.v]
 refine J_sr<|JS_as rfl<|JS_nt<|J_sr<|JS_as rfl<|JS_nt<|J_sr<|JS_as rfl<|JS_nt<|QG<|J_sr<|JS_as rfl<|JS_nt<|Qa ?_
 refine XU (ι:=gM a b) (fun i=>[(0,.slice q n c),(1,.slice rb.q rb.n rb.cap),(5,i.v),(6,.int .i64 i.borrow),(7,.int .i64 (i.i:Int))]) (fun i=>i.ob) (fun _ F=>JP F ⟨q,n,c⟩ a∧JP F rb b) (fun i=>a.length - i.i)
  ⟨0,[],0,.slice none 0 0,[],Nat.zero_le _,rfl,DG.nil _,by decide,by decide,by simp,.nil⟩ ⟨rfl,rfl,rfl,rfl,rfl,trivial⟩ (List.nil_sublist _) (fun _ h=>h) (fun i=>?_)
 have hile:=i.le
 have hlen:=i.len
 have hc0:=i.c0
 have hc1:=i.c1
 refine QG<|J_sr<|JS_mv rfl<|JS_mv rfl<|QA (Ql rfl Qf)<|QA (QV rfl rfl rfl)<|QE<|QC ?_
 refine QR rfl (fun hc=>?_) (fun hc=>?_)
 ·
  have hi:i.i<n:=by have:=dec_t hc;omega
  have hia:i.i<a.length:=by omega
  have b1:=Rl da i.i
  have b2:=Rl db i.i
  have e1:a[i.i]=a.getD i.i 0:=by simp [hia]
  refine Xz _ (fun w F hF h=>h.1.1.ptr (by dsimp only;omega)) (fun hq=>?_)
  obtain ⟨qb,qo,hq⟩:=hq
  dsimp only at hq
  subst hq
  refine QP<|QC<|QG<|Qa<|QG<|JN subl_r mixed (by kernel_rfl)<|QK (QD rfl)<|QK (QD rfl)<|QK (Qv (i:=i.i) rfl rfl Qf Qp (by omega))<|QK (XR (n:=n) (sz:=1) (cs:=a.map Qx) (u:=.int .i64 (a.getD i.i 0)) rfl Qp (fun F h=>h.1.1) (by omega) (by simp [hia,Qx]))<|QK (QD rfl)<|QK (QD rfl)<|QY rfl (fun w F hF ⟨hA,hB⟩=>PH (r:=rb) (l:=b) hF hB (by omega)) (fun _=>QK (J6 rfl rfl (by omega))<|QK (QD rfl)<|QK (J6 rfl rfl (by omega))<|QK (QF rfl)<|Q4<|QC<|J_sr<|JS_as rfl<|JS_nt<|QG ?_)
  refine J_sr<|JS_mv rfl<|QA (QV rfl rfl rfl)<|QE<|QC ?_
  refine QR rfl (fun hs=>?_) (fun hs=>?_)
  ·
   refine J_sr<|JS_mv rfl<|QA (Qu rfl rfl (by omega))<|JS_as rfl<|JS_nt<|QB<|JS_as rfl<|JS_nt<|QB<|JS_mv rfl<|JS_mv rfl<|QU rfl (Q6 Qf) Qp VQ rfl rfl (fun b31=>?_)
   refine VI (bs1:=[]) (ob:=i.ob) (k:=1) (sz:=1) (news:=[.int .i64 ((a.getD i.i 0 - b.getD i.i 0 - i.borrow)+1000000000)]) rfl rfl Qf Qp VQ rfl DF i.hr (Src.row (off:=0) (fun F h=>h.2) (fun j v hv=>by rw [Nat.zero_add];show([Value.int .i64 ((a.getD i.i 0 - b.getD i.i 0 - i.borrow)+1000000000)].toArray)[j]?=some v;rw [List.getElem?_toArray];exact hv) rfl) (by omega) (by omega) (fun u hu=>by rw [List.mem_singleton.1 hu];rfl) (fun v' ob' hr'=>?_)
   refine JS_as rfl<|QE<|Qk<|QC<|QB<|JS_mv rfl<|QA (Qu rfl rfl (by omega))<|JS_as rfl<|QE ?_
   exact Qo (⟨i.i+1,i.out++[((a.getD i.i 0 - b.getD i.i 0 - i.borrow)+1000000000)],1,v',ob',by omega,by simp [hlen],i.dg.append (DG.cons (by have:=dec_t hs;omega) (by have:=dec_t hs;rw [h9];omega) (DG.nil _)),by decide,by decide,yo hlen i.h (by rw [h9];omega),by simpa [Qx] using hr'⟩:gM a b) (by show a.length - (i.i+1)<a.length - i.i;omega) ⟨rfl,rfl,rfl,rfl,rfl,trivial⟩ subl_r (fun F h=>h.1.1)
  ·
   refine QP<|QC<|QB<|JS_mv rfl<|JS_mv rfl<|QU rfl (Q6 Qf) Qp VQ rfl rfl (fun b31=>?_)
   refine VI (bs1:=[]) (ob:=i.ob) (k:=1) (sz:=1) (news:=[.int .i64 (a.getD i.i 0 - b.getD i.i 0 - i.borrow)]) rfl rfl Qf Qp VQ rfl DF i.hr (Src.row (off:=0) (fun F h=>h.2) (fun j v hv=>by rw [Nat.zero_add];show([Value.int .i64 (a.getD i.i 0 - b.getD i.i 0 - i.borrow)].toArray)[j]?=some v;rw [List.getElem?_toArray];exact hv) rfl) (by omega) (by omega) (fun u hu=>by rw [List.mem_singleton.1 hu];rfl) (fun v' ob' hr'=>?_)
   refine JS_as rfl<|QE<|Qk<|QC<|QB<|JS_mv rfl<|QA (Qu rfl rfl (by omega))<|JS_as rfl<|QE ?_
   exact Qo (⟨i.i+1,i.out++[(a.getD i.i 0 - b.getD i.i 0 - i.borrow)],0,v',ob',by omega,by simp [hlen],i.dg.append (DG.cons (by have:=dec_f hs;omega) (by have:=dec_f hs;rw [h9];omega) (DG.nil _)),by decide,by decide,yo hlen i.h (by rw [h9];omega),by simpa [Qx] using hr'⟩:gM a b) (by show a.length - (i.i+1)<a.length - i.i;omega) ⟨rfl,rfl,rfl,rfl,rfl,trivial⟩ subl_r (fun F h=>h.1.1)
 ·
  refine Q5 ?_
  repeat (first | refine Qd ?_ | refine QW (by rfl) ?_)
  refine Qe<|QC<|QG ?_
  obtain ⟨r,hv,hrn,hrc,hfix⟩:=Q3.fix (w0:=w) (F0:=F) (bs1:=[]) (G:=fun F=>JP F ⟨q,n,c⟩ a∧JP F rb b) i.hr
  have hex:i.i=a.length:=by have:=dec_f hc;omega
  have hlz:=Xq i.out
  refine T9 hfix ?_
  rw [hv]
  refine QB<|JS_mv rfl<|QI rfl (fun w F hF ⟨⟨hA,hB⟩,hX⟩=>We (r:=r) (l:=i.out) hF ⟨by rw [hrn];exact hX,hrn.symm,by omega⟩ (by omega)) (fun c34=>JS_as rfl<|JS_nt<|QT ?_)
  exact QQ ((⟨r.q,(Q2 i.out).length,r.cap⟩,Q2 i.out):Sr×List Int) rfl (.tmp rfl .nil) rfl (fun F h=>⟨h.2,i.dg.Q2,by show dv B9 (Q2 i.out)=_;rw [J7];exact vc i.dg (by omega) lb (by have e:=i.h;rw [hex] at e;exact e) hc0 hc1 hle,Xa _,by show(Q2 i.out).length≤_;omega⟩)
end
section
open Go.RowKit Ig
section
variable {P:Program} {N:Nat} {m:Sl} {S:World→Prop} {ty:TypeId}
def CE (P:Program) (T:TypeId):Bool:=match P.underlying T with
 |some .bool=>true
 |_=>false
theorem gL {T:TypeId} (h:CE P T=true):P.underlying T=some .bool:=by
 unfold CE at h;split at h
 ·assumption
 ·cases h
theorem LK {T:TypeId} (hT:CE P T=true) (a b:Bool) (w:World):(Op.equal T (.bool a) (.bool b)).run P w = .ok (a==b) w:=by
 have e:∃ n,Op.maxDepth=n+1:=⟨Op.maxDepth - 1,by decide⟩
 obtain ⟨n,e⟩:=e
 unfold Op.equal
 rw [e]
 unfold Op.equalIn
 simp [run_underlying (gL hT)]
theorem gu {T yT:TypeId} {x y:Operand} {a b:Bool} (hT:CE P T=true) (hx:ev m x=some (.bool a)) (hy:ev m y=some (.bool b)):Qt P N m S (.binOp .eql T x y yT) ty (.bool (a==b)):=fun s w _ _ _ _ ha _=>by
 simp only [execOp,ha.ev hx,ha.ev hy,eqGuard,binOp,Sem.run_bind,Sem.run_pure,Result.andThen_ok,LK hT]
 rfl
theorem y8 {T yT:TypeId} {x y:Operand} {a b:Bool} (hT:CE P T=true) (hx:ev m x=some (.bool a)) (hy:ev m y=some (.bool b)):Qt P N m S (.binOp .neq T x y yT) ty (.bool (!(a==b))):=fun s w _ _ _ _ ha _=>by
 simp only [execOp,ha.ev hx,ha.ev hy,eqGuard,binOp,Sem.run_bind,Sem.run_pure,Result.andThen_ok,LK hT]
 rfl
end
theorem qW:CE Tryz.prog 4=true:=by kernel_rfl
theorem gI {x y:Int} (h:ZO x y≥0):y≤x:=by
 unfold ZO at h;split at h
 ·omega
 ·split at h<;>omega
theorem jJ {w:World} {F:Gs} {x:Ri} {zx:Int} (hF:Fits F w) (hx:VP F x zx) (hz:sz zx≤1000000):G2 Tryz.prog 179 [x.v] w F (-zx):=by
 obtain ⟨xn,⟨xq,xm,xc⟩,xl⟩:=x
 have px:=hx.p
 have lx:=px.len
 have kx:=hx.1.2.1
 have vx:=px.v0
 dsimp only at px lx kx vx
 dsimp only [Ri.v]
 have eqn : -zx=G9 (!xn) xl:=by rw [px.e];cases xn<;>simp [G9]
 refine QS.intro (G:=fun F=>VP F ⟨xn,⟨xq,xm,xc⟩,xl⟩ zx) Tryz.func179 rfl (by rfl) rfl rfl hF (fun F' hF'=>hx.le hF')<|J_sr<|Qw rfl (vs:=[_,_]) rfl (fun b1=>Qb Z6 (fun b2=>JS_nt<|J_sr<|QA (QH rfl KO Vy)<|QA (Qj rfl Vy (.there .here) (.here .nil))<|QA (Yt rfl)<|QA (QH rfl Z1 Qz)<|QA (Qj rfl Qz (.there .here) (.skip (.here .nil)))<|QI rfl (fun w F hF hx=>Zy hF (r:=⟨xq,xm,xc⟩) (l:=xl) (neg:=!xn) hx.1 (px.dg) (by omega)) (fun c8=>QN (vs:=[_,_]) rfl rfl rfl JH rfl .here (.here (.here .nil)) ⟨rfl,rfl,trivial⟩<|JS_nt<|QT ?_)))
 exact QQ (c8) rfl (.JU (c:=[_,_]) rfl JH .here .nil) (rfl) (fun F ⟨hx,h8⟩=>(by rw [eqn];exact h8))
theorem Gn {w:World} {F:Gs} {x y:Ri} {zx zy:Int} (hF:Fits F w) (hx:VP F x zx) (hy:VP F y zy) (hzx:sz zx≤1000000) (hzy:sz zy≤1000000):G2 Tryz.prog 178 [x.v,y.v] w F (zx*zy):=by
 obtain ⟨xn,⟨xq,xm,xc⟩,xl⟩:=x
 have px:=hx.p
 have lx:=px.len
 have kx:=hx.1.2.1
 have vx:=px.v0
 dsimp only at px lx kx vx
 obtain ⟨yn,⟨yq,ym,yc⟩,yl⟩:=y
 have py:=hy.p
 have ly:=py.len
 have ky:=hy.1.2.1
 have vy:=py.v0
 dsimp only at py ly ky vy
 dsimp only [Ri.v]
 refine QS.intro (G:=fun F=>VP F ⟨xn,⟨xq,xm,xc⟩,xl⟩ zx∧VP F ⟨yn,⟨yq,ym,yc⟩,yl⟩ zy) Tryz.func178 rfl (by rfl) rfl rfl hF (fun F' hF'=>⟨hx.le hF',hy.le hF'⟩)<|J_sr<|Qw rfl (vs:=[_,_]) rfl (fun b2=>Qw rfl (vs:=[_,_]) rfl (fun b3=>Qb Z6 (fun b4=>JS_nt<|QG<|JN (.cons _ (.cons_cons _ (.cons_cons _ .slnil))) mixed (by kernel_rfl)<|QK (QH rfl KO Vy)<|QK (Qj rfl Vy (.there .here) (.here .nil))<|QK (QH rfl KO Vy)<|QK (Qj rfl Vy .here (.here .nil))<|QK (y8 qW rfl rfl)<|QK (QH rfl Z1 Qz)<|QK (Qj rfl Qz (.there .here) (.skip (.here .nil)))<|QK (QH rfl Z1 Qz)<|QK (Qj rfl Qz .here (.skip (.here .nil))) ?_)))
 refine QY rfl (fun w F hF ⟨hx,hy⟩=>GI hF (a:=xl) (b:=yl) (ra:=⟨xq,xm,xc⟩) (rb:=⟨yq,ym,yc⟩) hx.1 (hy.1) (px.dg) (py.dg) (by omega) (by first | omega | (simp;done) | (simp;omega))) (fun c14=>?_);rcases c14 with ⟨v14,l14⟩;dsimp only
 refine E4 _ (fun w F hF ⟨⟨hx,hy⟩,⟨h14,h14p⟩⟩=>And.intro h14.2 h14p) (fun p14=>?_)
 have eqn:zx*zy=G9 (!(xn==yn)) l14:=by
  have e14:=p14.2.2.1
  rw [px.e,py.e];unfold G9;rw [e14];cases xn<;>cases yn<;>simp [Int.mul_neg,Int.neg_mul]
 have m14:=p14.2.2.2.2
 refine QY rfl (fun w F hF ⟨⟨hx,hy⟩,⟨h14,h14p⟩⟩=>Zy hF (r:=v14) (l:=l14) (neg:=!(xn==yn)) h14 (p14.2.1) (by omega)) (fun c15=>Q7 (vs:=[_,_]) rfl rfl rfl JH rfl .here (.cons_cons _ (.cons_cons _ .slnil)) (fun _ h=>h.1.1) (.here (.here .nil)) ⟨rfl,rfl,trivial⟩<|Q4<|QC<|QT ?_)
 exact QQ (c15) rfl (.JU (c:=[_,_]) rfl JH .here .nil) (rfl) (fun F ⟨⟨⟨hx,hy⟩,⟨h14,h14p⟩⟩,h15⟩=>(by rw [eqn];exact h15))
theorem zS {w:World} {F:Gs} {x y:Ri} {zx zy:Int} (hF:Fits F w) (hx:VP F x zx) (hy:VP F y zy) (hzx:sz zx≤1000000) (hzy:sz zy≤1000000):G2 Tryz.prog 177 [x.v,y.v] w F (zx+zy):=by
 obtain ⟨xn,⟨xq,xm,xc⟩,xl⟩:=x
 have px:=hx.p
 have lx:=px.len
 have kx:=hx.1.2.1
 have vx:=px.v0
 dsimp only at px lx kx vx
 obtain ⟨yn,⟨yq,ym,yc⟩,yl⟩:=y
 have py:=hy.p
 have ly:=py.len
 have ky:=hy.1.2.1
 have vy:=py.v0
 dsimp only at py ly ky vy
 dsimp only [Ri.v]
 refine QS.intro (G:=fun F=>VP F ⟨xn,⟨xq,xm,xc⟩,xl⟩ zx∧VP F ⟨yn,⟨yq,ym,yc⟩,yl⟩ zy) Tryz.func177 rfl (by rfl) rfl rfl hF (fun F' hF'=>⟨hx.le hF',hy.le hF'⟩)<|J_sr<|Qw rfl (vs:=[_,_]) rfl (fun b2=>Qw rfl (vs:=[_,_]) rfl (fun b3=>Qb Z6 (fun b4=>JS_nt<|QG<|J_sr<|QA (QH rfl KO Vy)<|QA (Qj rfl Vy (.there (.there .here)) (.here .nil))<|QA (QH rfl KO Vy)<|QA (Qj rfl Vy (.there .here) (.here .nil))<|QA (gu qW rfl rfl)<|QE<|QC ?_)))
 refine QR rfl (fun hc=>?_) (fun hc=>?_)
 ·
  have hne:xn=yn:=by simpa using hc
  refine QG<|JN (.cons _ (.cons_cons _ (.cons_cons _ .slnil))) mixed (by kernel_rfl)<|QK (QH rfl KO Vy)<|QK (Qj rfl Vy (.there .here) (.here .nil))<|QK (QH rfl Z1 Qz)<|QK (Qj rfl Qz (.there .here) (.skip (.here .nil)))<|QK (QH rfl Z1 Qz)<|QK (Qj rfl Qz .here (.skip (.here .nil))) ?_
  refine QY rfl (fun w F hF ⟨hx,hy⟩=>EV hF (a:=xl) (b:=yl) (ra:=⟨xq,xm,xc⟩) (rb:=⟨yq,ym,yc⟩) hx.1 (hy.1) (px.dg) (py.dg) (by omega) (by first | omega | (simp;done) | (simp;omega))) (fun c16=>?_);rcases c16 with ⟨v16,l16⟩;dsimp only
  refine E4 _ (fun w F hF ⟨⟨hx,hy⟩,⟨h16,h16p⟩⟩=>And.intro h16.2 h16p) (fun p16=>?_)
  have eqn:zx+zy=G9 xn l16:=by
   have e16:=p16.2.2.1
   rw [px.e,py.e,hne];unfold G9;rw [e16];cases yn<;>simp<;>omega
  have m16:=p16.2.2.2
  refine QY rfl (fun w F hF ⟨⟨hx,hy⟩,⟨h16,h16p⟩⟩=>Zy hF (r:=v16) (l:=l16) (neg:=xn) h16 (p16.2.1) (by omega)) (fun c17=>Q7 (vs:=[_,_]) rfl rfl rfl JH rfl .here (.cons_cons _ (.cons_cons _ .slnil)) (fun _ h=>h.1.1) (.here (.here .nil)) ⟨rfl,rfl,trivial⟩<|Q4<|QC<|QT ?_)
  exact QQ (c17) rfl (.JU (c:=[_,_]) rfl JH .here .nil) (rfl) (fun F ⟨⟨⟨hx,hy⟩,⟨h16,h16p⟩⟩,h17⟩=>(by rw [eqn];exact h17))
 ·
  have hne:xn=!yn:=by cases xn<;>cases yn<;>simp_all
  refine QP<|QC<|QG<|J_sr<|QA (QH rfl Z1 Qz)<|QA (Qj rfl Qz (.there (.there .here)) (.skip (.here .nil)))<|QA (QH rfl Z1 Qz)<|QA (Qj rfl Qz (.there .here) (.skip (.here .nil)))<|QI rfl (fun w F hF ⟨hx,hy⟩=>GK hF (a:=xl) (b:=yl) (ra:=⟨xq,xm,xc⟩) (rb:=⟨yq,ym,yc⟩) hx.1 (hy.1) (px.dg) (py.dg) (px.nz) (py.nz) (by omega) (by omega)) (fun _=>QA (QV rfl rfl rfl)<|QE<|QC ?_)
  refine QR rfl (fun hc=>?_) (fun hc=>?_)
  ·
   have hle:dv B9 yl≤dv B9 xl:=gI (dec_t hc)
   have hll:=Ww py.dg px.dg py.nz hle
   refine QG<|JN (.cons _ (.cons_cons _ (.cons_cons _ .slnil))) mixed (by kernel_rfl)<|QK (QH rfl KO Vy)<|QK (Qj rfl Vy (.there .here) (.here .nil))<|QK (QH rfl Z1 Qz)<|QK (Qj rfl Qz (.there .here) (.skip (.here .nil)))<|QK (QH rfl Z1 Qz)<|QK (Qj rfl Qz .here (.skip (.here .nil))) ?_
   refine QY rfl (fun w F hF ⟨⟨hx,hy⟩,_⟩=>Ac hF (a:=xl) (b:=yl) (ra:=⟨xq,xm,xc⟩) (rb:=⟨yq,ym,yc⟩) hx.1 (hy.1) (px.dg) (py.dg) (by omega) (by omega) (hle)) (fun c30=>?_);rcases c30 with ⟨v30,l30⟩;dsimp only
   refine E4 _ (fun w F hF ⟨⟨⟨hx,hy⟩,_⟩,⟨h30,h30p⟩⟩=>And.intro h30.2 h30p) (fun p30=>?_)
   have eqn:zx+zy=G9 xn l30:=by
    have e30:=p30.2.2.1
    rw [px.e,py.e,hne];unfold G9;rw [e30];cases yn<;>simp<;>omega
   have m30:=p30.2.2.2
   refine QY rfl (fun w F hF ⟨⟨⟨hx,hy⟩,_⟩,⟨h30,h30p⟩⟩=>Zy hF (r:=v30) (l:=l30) (neg:=xn) h30 (p30.2.1) (by omega)) (fun c31=>Q7 (vs:=[_,_]) rfl rfl rfl JH rfl .here (.cons_cons _ (.cons_cons _ .slnil)) (fun _ h=>h.1.1) (.here (.here .nil)) ⟨rfl,rfl,trivial⟩<|Q4<|QC<|QT ?_)
   exact QQ (c31) rfl (.JU (c:=[_,_]) rfl JH .here .nil) (rfl) (fun F ⟨⟨⟨⟨hx,hy⟩,_⟩,⟨h30,h30p⟩⟩,h31⟩=>(by rw [eqn];exact h31))
  ·
   have hle:dv B9 xl≤dv B9 yl:=ju (dec_f hc)
   have hll:=Ww px.dg py.dg px.nz hle
   refine QP<|QC<|QG<|JN (.cons _ (.cons_cons _ (.cons_cons _ .slnil))) mixed (by kernel_rfl)<|QK (QH rfl KO Vy)<|QK (Qj rfl Vy .here (.here .nil))<|QK (QH rfl Z1 Qz)<|QK (Qj rfl Qz .here (.skip (.here .nil)))<|QK (QH rfl Z1 Qz)<|QK (Qj rfl Qz (.there .here) (.skip (.here .nil))) ?_
   refine QY rfl (fun w F hF ⟨⟨hx,hy⟩,_⟩=>Ac hF (a:=yl) (b:=xl) (ra:=⟨yq,ym,yc⟩) (rb:=⟨xq,xm,xc⟩) hy.1 (hx.1) (py.dg) (px.dg) (by omega) (by omega) (hle)) (fun c38=>?_);rcases c38 with ⟨v38,l38⟩;dsimp only
   refine E4 _ (fun w F hF ⟨⟨⟨hx,hy⟩,_⟩,⟨h38,h38p⟩⟩=>And.intro h38.2 h38p) (fun p38=>?_)
   have eqn:zx+zy=G9 yn l38:=by
    have e38:=p38.2.2.1
    rw [px.e,py.e,hne];unfold G9;rw [e38];cases yn<;>simp<;>omega
   have m38:=p38.2.2.2
   refine QY rfl (fun w F hF ⟨⟨⟨hx,hy⟩,_⟩,⟨h38,h38p⟩⟩=>Zy hF (r:=v38) (l:=l38) (neg:=yn) h38 (p38.2.1) (by omega)) (fun c39=>Q7 (vs:=[_,_]) rfl rfl rfl JH rfl .here (.cons_cons _ (.cons_cons _ .slnil)) (fun _ h=>h.1.1) (.here (.here .nil)) ⟨rfl,rfl,trivial⟩<|Q4<|QC<|QT ?_)
   exact QQ (c39) rfl (.JU (c:=[_,_]) rfl JH .here .nil) (rfl) (fun F ⟨⟨⟨⟨hx,hy⟩,_⟩,⟨h38,h38p⟩⟩,h39⟩=>(by rw [eqn];exact h39))
end
section
open Go.RowKit Ig
theorem yK (x y:Int):Int.gcd y (x%y)=Int.gcd x y:=by
 rw [Int.gcd_comm y,Int.emod_def]
 first | rw [Int.gcd_sub_mul_left_left] | rw [Int.gcd_sub_mul_right_left] | rw [Int.gcd_sub_mul_left] | simp
theorem O9 {w:World} {F:Gs} {ra rb:Sr} {a b:List Int} (hF:Fits F w) (hA:JP F ra a) (hB:JP F rb b) (da:DG B9 a) (db:DG B9 b) (za:NZ a) (zb:NZ b) (la:a.length≤10000000) (lb:b.length≤10000000) :
  QS Tryz.prog 120 [ra.v,rb.v] w F (fun(c:Sr×List Int)=>.slice c.1.q c.1.n c.1.cap) (fun c F=>JP F c.1 c.2∧DG B9 c.2∧NZ c.2∧dv B9 c.2=(Int.gcd (dv B9 a) (dv B9 b):Int)):=by
 refine QS.intro (G:=fun F=>JP F ra a∧JP F rb b) Tryz.func120 rfl (by rfl) rfl rfl hF (fun F' hF'=>⟨hA.le hF',hB.le hF'⟩)<|J_sr<|JS_as rfl<|JS_nt<|QG<|Qa<|Jz (ι:=pJ (dv B9 a) (dv B9 b)) [] (fun i=>[(0,.slice i.ra.q i.ra.n i.ra.cap),(1,.slice i.rb.q i.rb.n i.rb.cap)]) (fun i=>[]) (fun i F=>JP F i.ra i.a∧JP F i.rb i.b) (fun i=>(dv B9 i.b).toNat) (⟨ra,rb,a,b,da,db,za,zb,la,lb,hB.2.1,rfl⟩) trivial ⟨rfl,rfl,trivial⟩ subl_r (fun F h=>h) (fun i=>?_)
 simp only [List.cons_append,List.nil_append]
 have hla:=i.la
 have hlb:=i.lb
 have hnb:=i.nb
 refine QG<|J_sr<|JS_mv rfl<|QA (Ql rfl Qf)<|QA (QV rfl rfl rfl)<|QE<|QC ?_
 refine QR rfl (fun hc=>?_) (fun hc=>?_)
 ·
  have hpos:0<dv B9 i.b:=by
   have h1:=Yh VV i.db i.zb
   have h2:=Qs JE i.db
   rw [← List.length_eq_zero_iff] at h1
   have:=dec_t hc
   omega
  have hm0:=Int.emod_nonneg (dv B9 i.a) (Int.ne_of_gt hpos)
  have hm1:=Int.emod_lt_of_pos (dv B9 i.a) hpos
  refine QP<|QC<|Qa<|J_sr<|JS_mv rfl<|JS_mv rfl<|QI rfl (fun w F hF ⟨⟨hA,hB⟩,⟨hR1,hR2⟩⟩=>GJ hF (a:=i.a) (b:=i.b) (ra:=i.ra) (rb:=i.rb) hR1 (hR2) (i.da) (i.db) (i.za) (i.zb) (hpos) (by omega) (by omega)) (fun c13=>JS_mv rfl<|QA (QM rfl rfl)<|QA (QM rfl rfl)<|JS_as rfl<|JS_as rfl<|JS_nt<|Xz _ (fun w F hF h=>And.intro h.2.2.2 h.2.2.1.2.1) (fun q13=>?_))
  obtain ⟨q13,n13⟩:=q13
  refine QB<|JS_mv rfl<|JS_mv rfl<|JS_as rfl<|JS_as rfl<|QE<|Qk ?_
  exact Qo (⟨i.rb,c13.2.1,i.b,c13.2.2,i.db,q13.1,i.zb,q13.2.1,i.lb,by have:=Ww q13.1 i.db q13.2.1 (by rw [q13.2.2];omega);omega,n13,by rw [q13.2.2,yK];exact i.h⟩) (by show(dv B9 c13.2.2).toNat<(dv B9 i.b).toNat;rw [q13.2.2];omega) ⟨rfl,rfl,trivial⟩ subl_r (fun F ⟨⟨⟨hA,hB⟩,⟨hR1,hR2⟩⟩,h13⟩=>⟨⟨hA,hB⟩,⟨hR2,h13.2.1⟩⟩)
 ·
  have hz:i.b=[]:=by
   have:=dec_f hc
   exact List.eq_nil_of_length_eq_zero (by omega)
  refine Q5 ?_
  repeat (first | refine Qd ?_ | refine QW (by rfl) ?_)
  refine Qe<|QC<|J_sr<|JS_mv rfl<|JS_as rfl<|JS_nt<|QT ?_
  exact QQ ((i.ra,i.a):Sr×List Int) rfl (.tmp rfl .nil) (rfl) (fun F ⟨⟨hA,hB⟩,⟨hR1,hR2⟩⟩=>⟨hR1,i.da,i.za,by have e:=i.h;rw [hz,Tg,Int.gcd_zero_right] at e;have:=Qs JE i.da;show dv B9 i.a=_;omega⟩)
end
section
open Go.RowKit Ig
theorem NX {w:World} {F:Gs} {x:Int} {least:Nat} (hF:Fits F w) (h0:0≤x) (hn:x≤9223372036854775807) (hl:least≤1000):QZ Tryz.prog 182 [.int .i64 x,.int .i64 (least:Int)] w F (tx (NU x.toNat least)):=by
 have:=xF (n:=x.toNat) (least:=least) hF (by omega) hl
 rw [Int.toNat_of_nonneg h0] at this;exact this
theorem Im {w:World} {F:Gs} {x:Ri} {zx:Int} (hF:Fits F w) (hx:VP F x zx) (hz:sz zx≤1000000):QZ Tryz.prog 192 [x.v] w F (tx (Xu zx)):=by
 obtain ⟨xn,⟨xq,xm,xc⟩,xl⟩:=x
 have px:=hx.p
 have lx:=px.len
 have kx:=hx.1.2.1
 have vx:=px.v0
 dsimp only at px lx kx vx
 dsimp only [Ri.v]
 have h9:B9=1000000000:=rfl
 refine QS.intro (G:=fun F=>VP F ⟨xn,⟨xq,xm,xc⟩,xl⟩ zx) Tryz.func192 rfl (by rfl) rfl rfl hF (fun F' hF'=>hx.le hF')<|J_sr<|Qw rfl (vs:=[_,_]) rfl (fun b1=>JS_as rfl<|JS_nt<|QG<|J_sr<|QA (QH rfl Z1 Qz)<|QA (Qj rfl Qz .here (.skip (.here .nil)))<|QA (Ql rfl Qf)<|QA (QV rfl rfl rfl)<|QE<|QC ?_)
 refine QR rfl (fun hc=>?_) (fun hc=>?_)
 ·
  have hx0:zx=0:=(px.zero).1 (List.eq_nil_of_length_eq_zero (by have:=hc;simp at this;omega))
  refine J_sr<|JS_as rfl<|JS_nt<|QT ?_
  exact QQ (()) rfl (.tmp rfl .nil) (by rw [hx0,Jx (by decide)];exact congrArg (fun l=>tx l) Zt) (fun F hx=>trivial)
 ·
  have hl0:0<xl.length:=by
   rcases Nat.eq_zero_or_pos xm with g | g
   ·rw [g] at hc;simp at hc
   ·omega
  obtain ⟨d1,d2⟩:=Gz px.dg px.nz hl0
  have b0:=px.dg.Qg JE (xl.length - 1)
  rw [h9] at b0
  refine QP<|QC<|J_sr<|QA (QH rfl Z1 Qz)<|QA (Qj rfl Qz .here (.skip (.here .nil)))<|QA (QH rfl Z1 Qz)<|QA (Qj rfl Qz .here (.skip (.here .nil)))<|QA (Ql rfl Qf)<|QA (J6 rfl rfl (by omega))<|QA (Ja (n:=xm) (xl.length - 1) (fun F hx=>(hx.1).1) rfl (congrArg (fun z:Int=>some (Value.int .i64 z)) (by omega)) Qf Qp (by omega))<|QA (Jk (n:=xm) ((xl.length - 1)*1) (fun F hx=>(hx.1).1) (by omega) rfl Qp (JO (o:=xl) (by omega)))<|QI rfl (fun w F hF hx=>NX hF (least:=1) (by omega) (by omega) (by omega)) (fun _=>JS_as rfl<|JS_nt<|QG<|J_sr<|QA (QH rfl Z1 Qz)<|QA (Qj rfl Qz .here (.skip (.here .nil)))<|QA (Ql rfl Qf)<|QA (J6 rfl rfl (by omega))<|JS_as rfl<|QE ?_)
  refine QC<|Qa<|Z3 (ι:=qh xl) [(1,_)] (fun i=>[(3,tx i.s),(4,.int .i64 ((i.k:Int) - 1))]) (fun i=>i.k) (qh.start px.dg px.nz hl0) ⟨rfl,trivial⟩ ⟨rfl,(congrArg (fun z:Int=>some (Value.int .i64 z)) (by simp only [qh.start];omega)),trivial⟩ (fun i=>?_)
  simp only [List.cons_append,List.nil_append]
  have hle:=i.le
  have hsl:=i.sl
  refine QG<|J_sr<|JS_mv rfl<|QA (QV rfl rfl rfl)<|QE<|QC ?_
  refine QR rfl (fun hc=>?_) (fun hc=>?_)
  ·
   have hk0:0<i.k:=by have:=dec_t hc;omega
   have b1:=px.dg.Qg JE (i.k - 1)
   rw [h9] at b1
   have ln:=DX (n:=(Qg xl (i.k - 1)).toNat) (by omega)
   refine QP<|QC<|QG<|Qa<|QB<|JS_mv rfl<|QA (QH rfl Z1 Qz)<|QA (Qj rfl Qz .here (.skip (.here .nil)))<|JS_mv rfl<|QA (Ja (n:=xm) (i.k - 1) (fun F ⟨hx,_⟩=>(hx.1).1) rfl (congrArg (fun z:Int=>some (Value.int .i64 z)) (by omega)) Qf Qp (by omega))<|QA (Jk (n:=xm) ((i.k - 1)*1) (fun F ⟨hx,_⟩=>(hx.1).1) (by omega) rfl Qp (JO (o:=xl) (by omega)))<|QI rfl (fun w F hF ⟨hx,_⟩=>NX hF (least:=9) (by omega) (by omega) (by omega)) (fun _=>QA (Zc rfl rfl (by omega))<|JS_as rfl<|QE<|Qk<|QC<|QB<|JS_mv rfl<|QA (J6 rfl rfl (by omega))<|JS_as rfl<|QE ?_)
   exact Qo (i.next px.dg hk0) (by show i.k - 1<i.k;omega) ⟨rfl,rfl,(congrArg (fun z:Int=>some (Value.int .i64 z)) (by simp only [qh.next];omega)),trivial⟩ subl_r (fun F h=>h.1)
  ·
   have hk0:i.k=0:=by have:=dec_f hc;omega
   have hi:=i.h
   rw [hk0,List.drop_zero] at hi
   have ha:=px.abs
   refine Q5 ?_
   repeat (first | refine Qd ?_ | refine QW (by rfl) ?_)
   refine Qe<|QC<|QG<|J_sr<|QA (QH rfl KO Vy)<|QA (Qj rfl Vy .here (.here .nil))<|QE<|QC ?_
   refine QR rfl (fun hc=>?_) (fun hc=>?_)
   ·
    have hneg:zx<0:=by have:=px.neg;rw [hc] at this;exact dec_t this.symm
    refine J_sr<|JS_mv rfl<|QA (Zc rfl rfl (by simp;omega))<|JS_as rfl<|JS_nt<|QT ?_
    exact QQ (()) rfl (.tmp rfl .nil) (by rw [YB hneg,hi];exact congrArg (fun n=>tx (45::Lib.decDigits n)) (by omega)) (fun F ⟨hx,_⟩=>trivial)
   ·
    have hneg:¬ zx<0:=by have:=px.neg;rw [hc] at this;exact dec_f this.symm
    refine QP<|QC<|J_sr<|JS_mv rfl<|JS_as rfl<|JS_nt<|QT ?_
    exact QQ (()) rfl (.tmp rfl .nil) (by rw [Jx (by omega),hi];exact congrArg (fun n=>tx (Lib.decDigits n)) (by omega)) (fun F ⟨hx,_⟩=>trivial)
end
section
open Go.RowKit Ig
theorem gE {n d:Int} (h:0<d) {neg:Bool} {l p:List Int} (hn:Vw neg l n) (hp:dv B9 p=dv B9 l / (Int.gcd n d:Int)):G9 neg p=(Rat.divInt n d).num:=by
 rw [(Kh h).1]
 have hg:(0:Int)<(Int.gcd n d:Int):=by have:=WG (x:=n) h;omega
 obtain ⟨k,hk⟩:=Int.gcd_dvd_left (a:=n) (b:=d)
 have e:=hn.e
 have hv:=hn.v0
 unfold G9 at e ⊢
 rw [hp]
 cases neg with
 |true =>
  simp only [if_true] at e ⊢
  have e2:dv B9 l=(Int.gcd n d:Int)*(-k):=by rw [Int.mul_neg,← hk];omega
  rw [e2,Int.mul_ediv_cancel_left _ (by omega)]
  have e3:n / (Int.gcd n d:Int)=k:=by
   conv=>lhs;lhs;rw [hk]
   exact Int.mul_ediv_cancel_left _ (by omega)
  rw [e3];omega
 |false =>
  simp only [Bool.false_eq_true,if_false] at e ⊢
  rw [← e]
theorem gF {n d:Int} (h:0<d) {neg:Bool} {l p:List Int} (hn:Vw neg l d) (hp:dv B9 p=dv B9 l / (Int.gcd n d:Int)):dv B9 p=((Rat.divInt n d).den:Int):=by
 rw [(Kh h).2,hp]
 have:=hn.abs
 congr 1;omega
theorem jm {n d:Int} {a b:Bool} {l m:List Int} (hn:Vw a l n) (hd:Vw b m d):Int.gcd (dv B9 l) (dv B9 m)=Int.gcd n d:=by
 rw [← hn.abs,← hd.abs];simp [Int.gcd]
theorem js (x y:Int):Rat.divInt (-x) (-y)=Rat.divInt x y:=Rat.neg_divInt_neg x y
theorem L2 {l:List Int} (h:DG B9 l) (hz:NZ l):(l.length=1∧Qg l 0=1)↔dv B9 l=1:=by
 constructor
 ·rintro ⟨h1,h2⟩
  obtain ⟨x,rfl⟩:=List.length_eq_one_iff.1 h1
  simp [Qg] at h2
  simp [dv,h2]
 ·intro e
  have:l=[1]:=qN VV h (DG.cons (by decide) (by decide) (DG.nil _)) hz (by simp [NZ]) (by rw [e];simp [dv])
  subst this;exact⟨rfl,rfl⟩
theorem zV {x:Rat} (h:(x.den:Int)=1):Xu x.num=JQ x:=by unfold JQ;rw [if_pos (by omega)]
theorem CW {x:Rat} (h:¬ (x.den:Int)=1):Xu x.num++[47]++Xu (x.den:Int)=JQ x:=by
 unfold JQ;rw [if_neg (by omega),Jx (z:=(x.den:Int)) (by omega)];simp
theorem Hm {w:World} {F:Gs} {x y:Ri} {zx zy:Int} (hF:Fits F w) (hx:VP F x zx) (hy:VP F y zy) (h0:zy≠0) (hzx:sz zx≤500000) (hzy:sz zy≤500000):QZ Tryz.prog 180 [x.v,y.v] w F (tx (JQ (Rat.divInt zx zy))):=by
 obtain ⟨xn,⟨xq,xm,xc⟩,xl⟩:=x
 have px:=hx.p
 have lx:=px.len
 have kx:=hx.1.2.1
 have vx:=px.v0
 dsimp only at px lx kx vx
 obtain ⟨yn,⟨yq,ym,yc⟩,yl⟩:=y
 have py:=hy.p
 have ly:=py.len
 have ky:=hy.1.2.1
 have vy:=py.v0
 dsimp only at py ly ky vy
 dsimp only [Ri.v]
 have hny:=py.neg
 refine QS.intro (G:=fun F=>VP F ⟨xn,⟨xq,xm,xc⟩,xl⟩ zx∧VP F ⟨yn,⟨yq,ym,yc⟩,yl⟩ zy) Tryz.func180 rfl (by rfl) rfl rfl hF (fun F' hF'=>⟨hx.le hF',hy.le hF'⟩)<|J_sr<|Qw rfl (vs:=[_,_]) rfl (fun b2=>Qw rfl (vs:=[_,_]) rfl (fun b3=>JS_as rfl<|QE<|QC ?_))
 refine T3 (ι:=pH zx zy) [(2,_),(3,_)] (fun i=>[]) (fun i=>[(b3,.cells [.bool i.d.neg,.slice i.d.r.q i.d.r.n i.d.r.cap].toArray 143 (0,0)),(b2,.cells [.bool i.n.neg,.slice i.n.r.q i.n.r.n i.n.r.cap].toArray 143 (0,0))]) (fun i F=>VP F i.n i.zn∧VP F i.d i.zd) ⟨rfl,rfl,trivial⟩ ?_ ?_
 ·
  refine J_sr<|QA (QH rfl KO Vy)<|QA (Qj rfl Vy .here (.here .nil))<|QE<|QC ?_
  refine QR rfl (fun hc=>?_) (fun hc=>?_)
  ·
   refine Xv 4 subl_r mixed (by kernel_rfl) (by kernel_rfl) ?_
   simp only [List.take_succ_cons,List.take_zero,List.drop_succ_cons,List.drop_zero]
   refine QK (QJ (vs:=[_,_]) rfl JH (.there .here) (.here (.here .nil)) rfl)<|QY rfl (fun w F hF ⟨hx,hy⟩=>jJ hF (x:=⟨xn,⟨xq,xm,xc⟩,xl⟩) hx (by omega)) (fun c14=>QK (QJ (vs:=[_,_]) rfl JH .here (.here (.here .nil)) rfl)<|QY rfl (fun w F hF ⟨⟨hx,hy⟩,h14⟩=>jJ hF (x:=⟨yn,⟨yq,ym,yc⟩,yl⟩) hy (by omega)) (fun c16=>VL<|QN (vs:=[_,_]) rfl rfl rfl JH rfl (.there .here) (.here (.here .nil)) ⟨rfl,rfl,trivial⟩<|QN (vs:=[_,_]) rfl rfl rfl JH rfl .here (.here (.here .nil)) ⟨rfl,rfl,trivial⟩<|QE ?_))
   exact Jt (⟨c14,c16,-zx,-zy,by rw [hc] at hny;have:=dec_t hny.symm;omega,js _ _,by rw [YK];exact hzx,by rw [YK];exact hzy⟩) ⟨rfl,rfl,trivial⟩ subl_r (fun F ⟨⟨⟨hx,hy⟩,h14⟩,h16⟩=>⟨⟨hx,hy⟩,⟨h14,h16⟩⟩)
  ·
   refine QP ?_
   exact Jt (⟨⟨xn,⟨xq,xm,xc⟩,xl⟩,⟨yn,⟨yq,ym,yc⟩,yl⟩,zx,zy,by rw [hc] at hny;have:=dec_f hny.symm;omega,rfl,hzx,hzy⟩) ⟨rfl,rfl,trivial⟩ subl_r (fun F ⟨hx,hy⟩=>⟨⟨hx,hy⟩,⟨hx,hy⟩⟩)
 ·intro i
  simp only [List.cons_append,List.nil_append]
  refine Xz _ (fun w F hF h=>And.intro h.2.1.p (And.intro h.2.2.p (And.intro h.2.1.1.2.1 h.2.2.1.2.1))) (fun pp=>?_)
  obtain ⟨pn,pd,kn,kd⟩:=pp
  have ln:=pn.len
  have ld:=pd.len
  have hsn:=i.sn
  have hsd:=i.sd
  have hi:=i.h
  have gg:=jm pn pd
  have q1:=Yd (a:=i.zn) (b:=i.zd) (by omega)
  have q2:=Jf (Rat.divInt i.zn i.zd)
  have q3:=Jb (Rat.divInt i.zn i.zd)
  have q4:sz (Rat.divInt i.zn i.zd).num≤500000:=by omega
  have q5:sz ((Rat.divInt i.zn i.zd).den:Int)≤500000:=by omega
  refine J_sr<|QA (QH rfl Z1 Qz)<|QA (Qj rfl Qz (.there .here) (.skip (.here .nil)))<|QA (QH rfl Z1 Qz)<|QA (Qj rfl Qz .here (.skip (.here .nil))) ?_
  refine QI rfl (fun w F hF ⟨⟨hx,hy⟩,⟨hN,hD⟩⟩=>O9 hF (a:=i.n.l) (b:=i.d.l) (ra:=i.n.r) (rb:=i.d.r) hN.1 (hD.1) (pn.dg) (pd.dg) (pn.nz) (pd.nz) (by omega) (by omega)) (fun c21=>?_);rcases c21 with ⟨v21,l21⟩;dsimp only
  refine JK _ (fun w F hF ⟨⟨⟨hx,hy⟩,⟨hN,hD⟩⟩,⟨h21,h21p⟩⟩=>And.intro h21.2 h21p) (fun p21=>JS_as rfl<|JS_nt<|QG ?_)
  have g0:0<dv B9 l21:=by rw [p21.2.2.2,gg];have:=WG (x:=i.zn) i.h;omega
  have l21l:l21.length≤i.d.l.length:=by
   refine Ww p21.2.1 pd.dg p21.2.2.1 ?_
   rw [p21.2.2.2,gg]
   have h1:(Int.gcd i.zn i.zd:Int)≤i.zd:=Int.le_of_dvd i.h (Int.gcd_dvd_right (a:=i.zn) (b:=i.zd))
   have h2:=pd.abs
   omega
  refine QB<|QA (QH rfl Z1 Qz)<|QA (Qj rfl Qz (.there .here) (.skip (.here .nil)))<|JS_mv rfl<|QI rfl (fun w F hF ⟨⟨⟨hx,hy⟩,⟨hN,hD⟩⟩,⟨h21,h21p⟩⟩=>GJ hF (a:=i.n.l) (b:=l21) (ra:=i.n.r) (rb:=v21) hN.1 (h21) (pn.dg) (p21.2.1) (pn.nz) (p21.2.2.1) (g0) (by omega) (by omega)) (fun c26=>JS_mv rfl<|QA (QM rfl rfl)<|QA (QM rfl rfl)<|JS_as rfl<|JS_as rfl<|JS_nt<|QG<|Xz _ (fun w F hF h=>And.intro h.2.1.2 h.2.1.1.2.1) (fun p26=>?_))
  obtain ⟨p26,n26⟩:=p26
  refine QB<|QA (QH rfl Z1 Qz)<|QA (Qj rfl Qz .here (.skip (.here .nil)))<|JS_mv rfl<|QI rfl (fun w F hF ⟨⟨⟨⟨hx,hy⟩,⟨hN,hD⟩⟩,⟨h21,h21p⟩⟩,h26⟩=>GJ hF (a:=i.d.l) (b:=l21) (ra:=i.d.r) (rb:=v21) hD.1 (h21) (pd.dg) (p21.2.1) (pd.nz) (p21.2.2.1) (g0) (by omega) (by omega)) (fun c33=>JS_mv rfl<|QA (QM rfl rfl)<|QA (QM rfl rfl)<|JS_as rfl<|JS_as rfl<|JS_nt<|QG<|Xz _ (fun w F hF h=>And.intro h.2.1.2 h.2.1.1.2.1) (fun p33=>?_))
  obtain ⟨p33,n33⟩:=p33
  have en:G9 i.n.neg c26.1.2=(Rat.divInt i.zn i.zd).num:=gE i.h pn (by rw [p26.2.2,p21.2.2.2,gg])
  have ed:dv B9 c33.1.2=((Rat.divInt i.zn i.zd).den:Int):=gF i.h pd (by rw [p33.2.2,p21.2.2.2,gg])
  have ed2:G9 false c33.1.2=((Rat.divInt i.zn i.zd).den:Int):=by rw [← ed];rfl
  have lnp:=Ww p26.1 pn.dg p26.2.1 (by rw [p26.2.2];exact Int.ediv_le_self _ pn.v0)
  have lnq:=Ww p33.1 pd.dg p33.2.1 (by rw [p33.2.2];exact Int.ediv_le_self _ pd.v0)
  have one1:=L2 p33.1 p33.2.1
  have lr1:=DV (Rat.divInt i.zn i.zd).num
  have lr2:=DV ((Rat.divInt i.zn i.zd).den:Int)
  refine QB<|QA (QH rfl KO Vy)<|QA (Qj rfl Vy (.there .here) (.here .nil))<|JS_mv rfl<|QI rfl (fun w F hF ⟨⟨⟨⟨⟨hx,hy⟩,⟨hN,hD⟩⟩,⟨h21,h21p⟩⟩,h26⟩,h33⟩=>Zy hF (r:=c26.1.1) (l:=c26.1.2) (neg:=i.n.neg) h26.1.1 (p26.1) (by first | omega | (simp;omega))) (fun c39=>QI rfl (fun w F hF ⟨⟨⟨⟨⟨⟨hx,hy⟩,⟨hN,hD⟩⟩,⟨h21,h21p⟩⟩,h26⟩,h33⟩,h39⟩=>Im hF (zx:=(Rat.divInt i.zn i.zd).num) (by rw [← en];exact h39) (by omega)) (fun _=>JS_as rfl<|JS_nt<|QG<|J_sr<|JS_mv rfl<|QA (Ql rfl Qf)<|QA (QV rfl rfl rfl)<|JS_mv rfl ?_))
  refine Qn (t:=44) rfl (fun hb44=>?_) (fun hb44=>?_)
  ·
   have hn1:c33.1.1.n=1:=by simp at hb44;omega
   refine QL rfl rfl<|JS_mv rfl<|QL rfl rfl<|QA (Ja (n:=c33.1.1.n) (0) (fun F ⟨⟨⟨⟨⟨⟨⟨hx,hy⟩,⟨hN,hD⟩⟩,⟨h21,h21p⟩⟩,h26⟩,h33⟩,h39⟩,_⟩=>(h33.1.1).1) rfl (congrArg (fun z:Int=>some (Value.int .i64 z)) (by omega)) Qf Qp (by omega))<|QL rfl rfl<|QA (Jk (n:=c33.1.1.n) ((0)*1) (fun F ⟨⟨⟨⟨⟨⟨⟨hx,hy⟩,⟨hN,hD⟩⟩,⟨h21,h21p⟩⟩,h26⟩,h33⟩,h39⟩,_⟩=>(h33.1.1).1) (by omega) rfl Qp (JO (o:=c33.1.2) (by omega)))<|QL rfl rfl<|QA (QV rfl rfl rfl)<|QA (Qi rfl rfl rfl)<|QE<|QC ?_
   refine QR rfl (fun hc=>?_) (fun hc=>?_)
   ·
    refine J_sr<|JS_mv rfl<|JS_as rfl<|JS_nt<|QT ?_
    exact QQ (()) rfl (.tmp rfl .nil) (by rw [← i.e];exact congrArg (fun l=>tx l) (zV (by rw [← ed];exact one1.1 ⟨by omega,by simpa using hc⟩)).symm) (fun F ⟨⟨⟨⟨⟨⟨⟨hx,hy⟩,⟨hN,hD⟩⟩,⟨h21,h21p⟩⟩,h26⟩,h33⟩,h39⟩,_⟩=>trivial)
   ·
    refine QP<|QC<|J_sr<|JS_mv rfl<|QA (Zc rfl rfl (by simp;omega))<|JS_mv rfl<|QI rfl (fun w F hF ⟨⟨⟨⟨⟨⟨⟨hx,hy⟩,⟨hN,hD⟩⟩,⟨h21,h21p⟩⟩,h26⟩,h33⟩,h39⟩,_⟩=>Zy hF (r:=c33.1.1) (l:=c33.1.2) (neg:=false) h33.1.1 (p33.1) (by first | omega | (simp;omega))) (fun c54=>QI rfl (fun w F hF ⟨⟨⟨⟨⟨⟨⟨⟨hx,hy⟩,⟨hN,hD⟩⟩,⟨h21,h21p⟩⟩,h26⟩,h33⟩,h39⟩,_⟩,h54⟩=>Im hF (zx:=((Rat.divInt i.zn i.zd).den:Int)) (by rw [← ed2];exact h54) (by omega)) (fun _=>QA (Zc rfl rfl (by simp;omega))<|JS_as rfl<|JS_nt<|QT ?_))
    exact QQ (()) rfl (.tmp rfl .nil) (by rw [← i.e];exact congrArg (fun l=>tx l) (CW (fun g=>by have:=one1.2 (by rw [ed];exact g);rw [this.2] at hc;simp at hc)).symm) (fun F ⟨⟨⟨⟨⟨⟨⟨⟨⟨hx,hy⟩,⟨hN,hD⟩⟩,⟨h21,h21p⟩⟩,h26⟩,h33⟩,h39⟩,_⟩,h54⟩,_⟩=>trivial)
  ·
   have hn1:c33.1.1.n≠1:=by simp at hb44;omega
   refine QO rfl rfl rfl<|QO rfl rfl rfl<|QO rfl rfl rfl<|QO rfl rfl rfl<|QA (Qh rfl rfl rfl)<|JS_nt<|Z8 rfl<|QP<|QC<|J_sr<|JS_mv rfl<|QA (Zc rfl rfl (by simp;omega))<|JS_mv rfl<|QI rfl (fun w F hF ⟨⟨⟨⟨⟨⟨⟨hx,hy⟩,⟨hN,hD⟩⟩,⟨h21,h21p⟩⟩,h26⟩,h33⟩,h39⟩,_⟩=>Zy hF (r:=c33.1.1) (l:=c33.1.2) (neg:=false) h33.1.1 (p33.1) (by first | omega | (simp;omega))) (fun c54=>QI rfl (fun w F hF ⟨⟨⟨⟨⟨⟨⟨⟨hx,hy⟩,⟨hN,hD⟩⟩,⟨h21,h21p⟩⟩,h26⟩,h33⟩,h39⟩,_⟩,h54⟩=>Im hF (zx:=((Rat.divInt i.zn i.zd).den:Int)) (by rw [← ed2];exact h54) (by omega)) (fun _=>QA (Zc rfl rfl (by simp;omega))<|JS_as rfl<|JS_nt<|QT ?_))
   exact QQ (()) rfl (.tmp rfl .nil) (by rw [← i.e];exact congrArg (fun l=>tx l) (CW (fun g=>by have:=one1.2 (by rw [ed];exact g);omega)).symm) (fun F ⟨⟨⟨⟨⟨⟨⟨⟨⟨hx,hy⟩,⟨hN,hD⟩⟩,⟨h21,h21p⟩⟩,h26⟩,h33⟩,h39⟩,_⟩,h54⟩,_⟩=>trivial)
end
section
open Go.RowKit Ig
theorem y6 (x:Rat):(Wg x).num=(x.num.natAbs:Int)∧(Wg x).den=x.den:=by
 unfold Wg;split
 ·exact⟨by rw [Rat.neg_num];omega,by rw [Rat.neg_den]⟩
 ·exact⟨by omega,rfl⟩
theorem zw {z:Int} (h:z<0):Xu z=45::Xu (-z):=by
 rw [YB h,Jx (z:=-z) (by omega)];congr 2;omega
theorem Ah {x:Rat} (h:x.num<0):JQ x=45::JQ (-x):=by
 unfold JQ
 rw [Rat.neg_num,Rat.neg_den,zw h]
 split<;>rfl
theorem NY (x:Rat):Lib.hasPrefix (JQ x) [45]=decide (x.num<0):=by
 by_cases h:x.num<0
 ·rw [Ah h];simp [Lib.hasPrefix,List.isPrefixOf,h]
 ·have e:(decide (x.num<0))=false:=by simpa using h
  rw [e]
  unfold JQ
  rw [Jx (by omega)]
  have hd:=Jh x.num.natAbs
  split
  ·exact K5 hd
  ·have hne:=Ki x.num.natAbs
   cases hl:Lib.decDigits x.num.natAbs with
   |nil=>exact absurd hl hne
   |cons c r =>
    have:=K5 hd
    rw [hl] at this
    simpa [Lib.hasPrefix,List.isPrefixOf] using this
theorem jM (x:Rat):Lib.trimPrefix (JQ x) [45]=JQ (Wg x):=by
 unfold Lib.trimPrefix Wg
 rw [NY]
 by_cases h:x.num<0
 ·rw [if_pos (by simpa using h),if_pos h,Ah h];rfl
 ·rw [if_neg (by simpa using h),if_neg h]
theorem LR {l:List UInt8} (h:XF l=true) (hl:l.length≤9):Q8 l<1000000000:=by
 have h1:=Vm h
 have h2:10^l.length≤10^9:=Nat.pow_le_pow_right (by decide) hl
 omega
theorem Ae {w:World} {F:Gs} {x:Rat} (hF:Fits F w) (hl:JL x≤100000):QS Tryz.prog 194 [tx (JQ x)] w F (fun(c:Int×Int×Bool)=>.tuple #[.int .i64 c.1,.int .i64 c.2.1,.bool c.2.2]) (fun c _=>zo x c):=by
 have hlen:=Gy x
 have hlen2:=Gy (Wg x)
 rw [q9] at hlen2
 obtain ⟨an,ad⟩:=y6 x
 have hah:=Bi XS (JQ (Wg x))
 have anT:Xu (Wg x).num=Lib.decDigits x.num.natAbs:=by rw [an,Jx (by omega)];rfl
 refine QS.intro (G:=fun F=>True) Tryz.func194 rfl (by rfl) rfl rfl hF (fun F' hF'=>trivial)<|J_sr<|JS_as rfl<|JS_as rfl<|JS_as rfl<|JS_nt<|J_sr<|JS_mv rfl<|JS_as rfl<|JS_nt<|QG<|J_sr<|JS_mv rfl<|QA (J9 rfl Xh)<|QA (QV rfl rfl rfl)<|QE<|QC ?_
 refine QR rfl (fun hc=>?_) (fun hc=>?_)
 ·
  refine J_sr<|JS_as rfl<|JS_as rfl<|JS_as rfl<|JS_nt<|QT ?_
  exact JY ((0,0,false):Int×Int×Bool) rfl (.tmp rfl (.tmp rfl (.tmp rfl .nil))) (rfl) (fun F hT=>fun h=>by cases h)
 ·
  refine QP<|QC ?_
  refine KZ [(5,_)] [(6,.bool (decide (x.num<0)))] ⟨rfl,trivial⟩ ?_ ?_
  ·
   refine QB<|JS_mv rfl<|QA (J9 rfl Xh)<|QA (QV rfl rfl rfl)<|JS_mv rfl ?_
   refine Qn (t:=17) rfl (fun hb17=>?_) (fun hb17=>?_)
   ·
    refine QL rfl rfl<|JS_mv rfl<|QL rfl rfl<|QA (Vn (i:=0) rfl rfl Xh (by have:=dec_t hb17;omega))<|QL rfl rfl<|QA (QV rfl rfl rfl)<|QA (Qi rfl rfl rfl)<|JS_as rfl<|QE ?_
    exact X0 ⟨rfl,(congrArg (fun b=>some (Value.bool b)) (by have h0:0<(JQ x).length:=(by have:=dec_t hb17;omega);rw [← NY,Wr h0];exact MD rfl)),trivial⟩ subl_r (fun _ h=>h)
   ·
    refine QO rfl rfl rfl<|QO rfl rfl rfl<|QO rfl rfl rfl<|QA (Qh rfl rfl rfl)<|JS_as rfl<|QE ?_
    exact X0 ⟨rfl,(congrArg (fun b=>some (Value.bool b)) (by have h0:(JQ x).length=0:=(by have:=dec_f hb17;omega);rw [← NY,List.eq_nil_of_length_eq_zero h0];rfl)),trivial⟩ subl_r (fun _ h=>h)
  ·
   simp only [List.cons_append,List.nil_append]
   refine KZ [(6,_)] [(5,tx (JQ (Wg x)))] ⟨rfl,trivial⟩ ?_ ?_
   ·
    refine J_sr<|JS_mv rfl<|QE<|QC ?_
    refine QR rfl (fun hc=>?_) (fun hc=>?_)
    ·
     refine QB<|JS_mv rfl<|QA (Kd (1) rfl rfl Xh rfl (by have:=Mc (s:=JQ x) (by rw [NY];exact hc);omega))<|JS_as rfl<|QE ?_
     exact X0 ⟨rfl,(congrArg (fun l=>some (tx l)) (by rw [← jM];unfold Lib.trimPrefix;rw [if_pos (by rw [NY];exact hc)];rfl)),trivial⟩ subl_r (fun _ h=>h)
    ·
     refine QP ?_
     exact X0 ⟨rfl,(congrArg (fun l=>some (tx l)) (by rw [← jM];unfold Lib.trimPrefix;rw [NY,hc];rfl)),trivial⟩ subl_r (fun _ h=>h)
   ·
    simp only [List.cons_append,List.nil_append]
    refine J_sr<|JS_mv rfl<|QI rfl (fun w F hF hT=>BA hF (by omega)) (fun _=>JS_as rfl<|JS_nt<|QG<|J_sr<|JS_mv rfl<|QA (QV rfl rfl rfl)<|JS_mv rfl ?_)
    refine Qn (t:=29) rfl (fun hb29=>?_) (fun hb29=>?_)
    ·
     refine QO rfl rfl rfl<|QO rfl rfl rfl<|QO rfl rfl rfl<|QO rfl rfl rfl<|QO rfl rfl rfl<|QA (Qi rfl rfl rfl)<|JS_nt<|WT rfl<|J_sr<|JS_as rfl<|JS_as rfl<|JS_as rfl<|JS_nt<|QT ?_
     exact JY ((0,0,false):Int×Int×Bool) rfl (.tmp rfl (.tmp rfl (.tmp rfl .nil))) (rfl) (fun F ⟨hT,_⟩=>fun h=>by cases h)
    ·
     refine QL rfl rfl<|JS_mv rfl<|QL rfl rfl<|QA (J9 rfl Xh)<|QL rfl rfl<|JS_mv rfl<|QL rfl rfl<|QA (J6 rfl rfl (by omega))<|QL rfl rfl<|QA (QV rfl rfl rfl)<|QA (Qh rfl rfl rfl)<|QE<|QC ?_
     refine QR rfl (fun hc=>?_) (fun hc=>?_)
     ·
      refine J_sr<|JS_as rfl<|JS_as rfl<|JS_as rfl<|JS_nt<|QT ?_
      exact JY ((0,0,false):Int×Int×Bool) rfl (.tmp rfl (.tmp rfl (.tmp rfl .nil))) (rfl) (fun F ⟨hT,_⟩=>fun h=>by cases h)
     ·
      have k9:ahead XS (JQ (Wg x))≤9∧(JQ (Wg x)).length - ahead XS (JQ (Wg x))≤10:=by
       have ha:=Bi XS (JQ (Wg x))
       first | (simp at hc hb29;omega) | (simp at hc;omega)
      have kt:(JQ (Wg x)).take (ahead XS (JQ (Wg x)))=Xu (Wg x).num:=by
       by_cases hd:(Wg x).den=1
       ·obtain ⟨e1,e2⟩:=Ni hd
        rw [e2,List.take_length,e1]
       ·exact(G7 hd).2.2.1
      have kr:Q8 ((JQ (Wg x)).take (ahead XS (JQ (Wg x))))=x.num.natAbs:=by rw [kt,anT,X1]
      have hnum:x.num.natAbs<1000000000:=by
       have h1:=LR (l:=Xu (Wg x).num) (by rw [anT];exact Jh _) (by rw [← kt,List.length_take];omega)
       rw [anT,X1] at h1;exact h1
      have hdn:x.den<1000000000:=by
       rw [← ad]
       by_cases hd:(Wg x).den=1
       ·omega
       ·obtain ⟨e1,e2,e3,e4⟩:=G7 hd
        have h1:=LR (l:=Lib.decDigits (Wg x).den) (Jh _) (by rw [← e4,List.length_drop];omega)
        rw [X1] at h1;exact h1
      refine QP<|QC<|J_sr<|JS_mv rfl<|JS_mv rfl<|QA (Gx (ahead XS (JQ (Wg x))) rfl rfl Xh rfl (by omega))<|QI rfl (fun w F hF ⟨hT,_⟩=>MU hF (by rw [kt,anT];exact Jh _) (by rw [List.length_take];omega)) (fun _=>?_)
      rw [kr]
      refine JS_as rfl<|JS_as rfl<|QE<|QC ?_
      refine KZ [(6,_),(8,_)] [(9,.int .i64 (x.den:Int))] ⟨rfl,rfl,trivial⟩ ?_ ?_
      ·
       refine J_sr<|JS_mv rfl<|JS_mv rfl<|QA (J9 rfl Xh)<|QA (QV rfl rfl rfl)<|QE<|QC ?_
       refine QR rfl (fun hc=>?_) (fun hc=>?_)
       ·
        have hlt:=dec_t hc
        have hd:¬ (Wg x).den=1:=fun g=>by have:=(Nj (Wg x)).2 g;have:=dec_t hc;omega
        have kd:=(G7 hd).2.2.2
        have kd2:Q8 ((JQ (Wg x)).drop (ahead XS (JQ (Wg x))+1))=x.den:=by rw [kd,X1,ad]
        refine QB<|JS_mv rfl<|JS_mv rfl<|QA (Qu rfl rfl (by omega))<|QA (Kd ((ahead XS (JQ (Wg x))+1)) rfl rfl Xh (congrArg (fun z:Int=>some (Value.int .i64 z)) (by omega)) (by omega))<|QI rfl (fun w F hF ⟨⟨hT,_⟩,_⟩=>MU hF (by rw [kd];exact Jh _) (by rw [List.length_drop];omega)) (fun _=>?_)
        rw [kd2]
        refine JS_as rfl<|QE ?_
        exact X0 ⟨rfl,rfl,rfl,trivial⟩ subl_r (fun _ h=>h.1)
       ·
        have hd:(Wg x).den=1:=(Nj (Wg x)).1 (by have:=dec_f hc;have:=Bi XS (JQ (Wg x));omega)
        refine QP ?_
        exact X0 ⟨rfl,rfl,(congrArg (fun z:Int=>some (Value.int .i64 z)) (by rw [← ad,hd];rfl)),trivial⟩ subl_r (fun _ h=>h)
      ·
       simp only [List.cons_append,List.nil_append]
       have hden:x.den<1000000000:=hdn
       refine KZ [(9,_)] [(8,.int .i64 (x.num))] ⟨rfl,trivial⟩ ?_ ?_
       ·
        refine J_sr<|JS_mv rfl<|QE<|QC ?_
        refine QR rfl (fun hc=>?_) (fun hc=>?_)
        ·
         refine QB<|JS_mv rfl<|QA (J6 rfl rfl (by omega))<|JS_as rfl<|QE ?_
         exact X0 ⟨rfl,(congrArg (fun z:Int=>some (Value.int .i64 z)) (by have:=dec_t hc;omega)),trivial⟩ subl_r (fun _ h=>h)
        ·
         refine QP ?_
         exact X0 ⟨rfl,(congrArg (fun z:Int=>some (Value.int .i64 z)) (by have:=dec_f hc;omega)),trivial⟩ subl_r (fun _ h=>h)
       ·
        simp only [List.cons_append,List.nil_append]
        refine J_sr<|JS_mv rfl<|JS_mv rfl<|JS_as rfl<|JS_as rfl<|JS_as rfl<|JS_nt<|QT ?_
        exact JY ((x.num,(x.den:Int),true):Int×Int×Bool) rfl (.tmp rfl (.tmp rfl (.tmp rfl .nil))) (rfl) (fun F ⟨⟨hT,_⟩,_⟩=>fun _=>⟨rfl,rfl,hnum,hden⟩)
end
section
open Go.RowKit Ig
section
variable {P:Program} {N:Nat} {m:Sl} {S:World→Prop} {ty:TypeId}
theorem gr {T yT:TypeId} {x y:Operand} {a b:Int} (hx:ev m x=some (.int .i64 a)) (hy:ev m y=some (.int .i64 b)) (h:0<b) (h0 : -9223372036854775807≤a) (h1:a≤9223372036854775807):Qt P N m S (.binOp .quo T x y yT) ty (.int .i64 (a.tdiv b)):=by
 have:=Ih (P:=P) (N:=N) (m:=m) (S:=S) (ty:=ty) (T:=T) (yT:=yT) hx hy (by omega)
 have e:=Int.natAbs_tdiv a b
 have e2:a.natAbs.div b.natAbs≤a.natAbs:=Nat.div_le_self _ _
 rw [IntWalk.i64_in _ (by omega)] at this;exact this
end
theorem vu {w:World} {F:Gs} {x y:Int} (hF:Fits F w) (h0:0≤x) (h1:x≤9223372036854775807) (k0:0≤y) (k1:y≤9223372036854775807):QZ Tryz.prog 181 [.int .i64 x,.int .i64 y] w F (.int .i64 (Nat.gcd x.toNat y.toNat:Nat)):=by
 have:=y4 (a:=x.toNat) (b:=y.toNat) hF (by omega) (by omega)
 rw [Int.toNat_of_nonneg h0,Int.toNat_of_nonneg k0] at this;exact this
theorem kK (z:Int):(if 0 - z>z then 0 - z else z)=((z.natAbs:Nat):Int):=by split<;>omega
theorem jt (n:Nat):NU n 1=Lib.decDigits n:=by
 rcases Nat.eq_zero_or_pos n with h | h
 ·subst h;unfold NU hd;rw [if_pos rfl,Zt];rfl
 ·exact Pr h
theorem kE {n:Int} {d:Nat} (h:0<d):n.tdiv ((Nat.gcd n.natAbs d:Nat):Int)=(Rat.divInt n d).num:=by
 rw [(Kh (x:=n) (y:=(d:Int)) (by omega)).1]
 have e:(Nat.gcd n.natAbs d:Nat)=Int.gcd n (d:Int):=by simp [Int.gcd]
 rw [e]
 exact Int.tdiv_eq_ediv_of_dvd (Int.gcd_dvd_left (a:=n) (b:=(d:Int)))
theorem kF {n:Int} {d:Nat} (h:0<d):(d:Int) / ((Nat.gcd n.natAbs d:Nat):Int)=((Rat.divInt n d).den:Int):=by
 rw [(Kh (x:=n) (y:=(d:Int)) (by omega)).2]
 have e:(Nat.gcd n.natAbs d:Nat)=Int.gcd n (d:Int):=by simp [Int.gcd]
 rw [e]
theorem gA (n:Int) {d:Int} (h:d≠0):Rat.divInt (if d<0 then 0 - n else n) (d.natAbs:Int)=Rat.divInt n d:=by
 split
 ·rename_i g
  rw [show((d.natAbs:Nat):Int) = -d by omega,Int.zero_sub];exact Rat.neg_divInt_neg n d
 ·rw [show((d.natAbs:Nat):Int)=d by omega]
theorem kG {n:Int} {d:Nat} (h:0<d) (hn:n.natAbs≤4000000000000000000) (hd:d≤4000000000000000000):(Rat.divInt n d).num.natAbs≤4000000000000000000∧(Rat.divInt n d).den≤4000000000000000000∧0<(Rat.divInt n d).den:=by
 have e1:=kE (n:=n) h
 have e2:=kF (n:=n) h
 have k1:=Int.natAbs_tdiv n ((Nat.gcd n.natAbs d:Nat):Int)
 have k2:n.natAbs.div ((Nat.gcd n.natAbs d:Nat):Int).natAbs≤n.natAbs:=Nat.div_le_self _ _
 have k3:(d:Int) / ((Nat.gcd n.natAbs d:Nat):Int)≤(d:Int):=Int.ediv_le_self _ (by omega)
 have k4:=(Rat.divInt n d).den_pos
 rw [e1] at k1
 omega
theorem jZ (z:Int):(if z<0 then [45] else [])++Lib.decDigits z.natAbs=Xu z:=by
 split
 ·rename_i h;rw [YB h];rfl
 ·rw [Jx (by omega)];rfl
theorem vb {z:Int} (h : -9223372036854775808≤z∧z≤9223372036854775807):sz z≤64:=by
 rw [Xx];omega
theorem gP {w:World} {F:Gs} {num den:Int} (hF:Fits F w) (hn : -9223372036854775808≤num∧num≤9223372036854775807) (hd : -9223372036854775808≤den∧den≤9223372036854775807) (h0:den≠0):QZ Tryz.prog 74 [.int .i64 num,.int .i64 den] w F (tx (JQ (Rat.divInt num den))):=by
 refine QS.intro (G:=fun F=>True) Tryz.func74 rfl (by rfl) rfl rfl hF (fun F' hF'=>trivial)<|J_sr<|JS_as rfl<|JS_nt<|QG ?_
 refine KZ [(0,_),(1,_)] [(20,.bool (decide (num < -4000000000000000000∨num>4000000000000000000∨den < -4000000000000000000∨den>4000000000000000000)))] ⟨rfl,rfl,trivial⟩ ?_ ?_
 ·
  refine QB<|JS_mv rfl<|QA (QV rfl rfl rfl)<|JS_mv rfl ?_
  refine Qn (t:=9) rfl (fun hb9=>?_) (fun hb9=>?_)
  ·
   refine QO rfl rfl rfl<|QO rfl rfl rfl<|QA (Qi rfl rfl rfl)<|JS_mv rfl<|QO rfl rfl rfl<|QO rfl rfl rfl<|QA (Qi rfl rfl rfl)<|JS_mv rfl<|QO rfl rfl rfl<|QO rfl rfl rfl<|QA (Qi rfl rfl rfl)<|QE ?_
   exact X0 ⟨rfl,rfl,(congrArg (fun b=>some (Value.bool b)) (by rw [Bool.eq_iff_iff];simp_all;try omega)),trivial⟩ subl_r (fun _ h=>h)
  ·
   refine QL rfl rfl<|JS_mv rfl<|QL rfl rfl<|QA (QV rfl rfl rfl)<|QA (Qh rfl rfl rfl)<|JS_mv rfl ?_
   refine Qn (t:=13) rfl (fun hb13=>?_) (fun hb13=>?_)
   ·
    refine QO rfl rfl rfl<|QO rfl rfl rfl<|QA (Qi rfl rfl rfl)<|JS_mv rfl<|QO rfl rfl rfl<|QO rfl rfl rfl<|QA (Qi rfl rfl rfl)<|QE ?_
    exact X0 ⟨rfl,rfl,(congrArg (fun b=>some (Value.bool b)) (by rw [Bool.eq_iff_iff];simp_all;try omega)),trivial⟩ subl_r (fun _ h=>h)
   ·
    refine QL rfl rfl<|JS_mv rfl<|QL rfl rfl<|QA (QV rfl rfl rfl)<|QA (Qh rfl rfl rfl)<|JS_mv rfl ?_
    refine Qn (t:=17) rfl (fun hb17=>?_) (fun hb17=>?_)
    ·
     refine QO rfl rfl rfl<|QO rfl rfl rfl<|QA (Qi rfl rfl rfl)<|QE ?_
     exact X0 ⟨rfl,rfl,(congrArg (fun b=>some (Value.bool b)) (by rw [Bool.eq_iff_iff];simp_all;try omega)),trivial⟩ subl_r (fun _ h=>h)
    ·
     refine QL rfl rfl<|JS_mv rfl<|QL rfl rfl<|QA (QV rfl rfl rfl)<|QA (Qh rfl rfl rfl)<|QE ?_
     exact X0 ⟨rfl,rfl,(congrArg (fun b=>some (Value.bool b)) (by rw [Bool.eq_iff_iff];simp_all;try omega)),trivial⟩ subl_r (fun _ h=>h)
 ·
  simp only [List.cons_append,List.nil_append]
  refine QR rfl (fun hc=>?_) (fun hc=>?_)
  ·
   refine J_sr<|JS_mv rfl<|QI rfl (fun w F hF hT=>E6 hF (by omega)) (fun c22=>JS_mv rfl<|QI rfl (fun w F hF ⟨hT,h22⟩=>E6 hF (by omega)) (fun c24=>QI rfl (fun w F hF ⟨⟨hT,h22⟩,h24⟩=>Hm hF (h22) (h24) (h0) (by have:=vb hn;omega) (by have:=vb hd;omega)) (fun _=>JS_as rfl<|JS_nt<|QT ?_)))
   exact QQ (()) rfl (.tmp rfl .nil) (rfl) (fun F ⟨⟨⟨hT,h22⟩,h24⟩,_⟩=>trivial)
  ·
   have hb:¬ (num < -4000000000000000000∨num>4000000000000000000∨den < -4000000000000000000∨den>4000000000000000000):=dec_f hc
   refine QP<|QC ?_
   refine KZ [] [(0,.int .i64 (if den<0 then 0 - num else num)),(1,.int .i64 ((den.natAbs:Nat):Int))] trivial ?_ ?_
   ·
    refine J_sr<|JS_mv rfl<|QA (QV rfl rfl rfl)<|QE<|QC ?_
    refine QR rfl (fun hc=>?_) (fun hc=>?_)
    ·
     refine QB<|JS_mv rfl<|QA (J6 rfl rfl (by omega))<|JS_mv rfl<|QA (J6 rfl rfl (by omega))<|JS_as rfl<|JS_as rfl<|QE ?_
     exact X0 ⟨(congrArg (fun z:Int=>some (Value.int .i64 z)) (if_pos (dec_t hc)).symm),(congrArg (fun z:Int=>some (Value.int .i64 z)) (by have:=dec_t hc;omega)),trivial⟩ subl_r (fun _ h=>h)
    ·
     refine QP ?_
     exact X0 ⟨(congrArg (fun z:Int=>some (Value.int .i64 z)) (if_neg (dec_f hc)).symm),(congrArg (fun z:Int=>some (Value.int .i64 z)) (by have:=dec_f hc;omega)),trivial⟩ subl_r (fun _ h=>h)
   ·
    simp only [List.cons_append,List.nil_append]
    have hq:=gA num h0
    have b1:(if den<0 then 0 - num else num).natAbs≤4000000000000000000:=by split<;>omega
    generalize (if den<0 then 0 - num else num)=n1 at *
    obtain ⟨c1,c2,c3⟩:=kG (n:=n1) (d:=den.natAbs) (by omega) b1 (by omega)
    have hg:0<Nat.gcd n1.natAbs den.natAbs:=Nat.gcd_pos_of_pos_right _ (by omega)
    have lr1:=DV (Rat.divInt n1 (den.natAbs:Int)).num
    have lr2:=T1 (Rat.divInt n1 (den.natAbs:Int)).den
    have lz1:=vb (z:=(Rat.divInt n1 (den.natAbs:Int)).num) (by omega)
    have lz2:=vb (z:=((Rat.divInt n1 (den.natAbs:Int)).den:Int)) (by omega)
    have e1:=kE (n:=n1) (d:=den.natAbs) (by omega)
    have e2:=kF (n:=n1) (d:=den.natAbs) (by omega)
    refine J_sr<|JS_mv rfl<|JS_mv rfl<|QA (J6 rfl rfl (by omega))<|QA (y9 rfl rfl) ?_
    rw [kK]
    refine JS_mv rfl<|QI rfl (fun w F hF hT=>vu hF (by omega) (by omega) (by omega) (by omega)) (fun _=>JS_as rfl<|JS_nt<|QG<|JN subl_r mixed (by kernel_rfl) ?_)
    simp only [Int.toNat_natCast]
    refine QK (QD rfl)<|QK (QD rfl)<|QK (gr rfl rfl (by omega) (by omega) (by omega)) ?_
    rw [e1]
    refine QK (QD rfl)<|QK (QD rfl)<|QK (Wb rfl rfl (by omega) (by omega) (by omega)) ?_
    rw [e2]
    refine QK (QF rfl)<|QK (QF rfl)<|Q4<|QC<|J_sr<|JS_as rfl<|QE<|QC ?_
    refine KZ [(0,_),(1,_)] [(6,tx (if(Rat.divInt n1 (den.natAbs:Int)).num<0 then [45] else []))] ⟨rfl,rfl,trivial⟩ ?_ ?_
    ·
     refine J_sr<|JS_mv rfl<|QA (QV rfl rfl rfl)<|QE<|QC ?_
     refine QR rfl (fun hc=>?_) (fun hc=>?_)
     ·
      refine QB<|JS_as rfl<|QE ?_
      exact X0 ⟨rfl,rfl,(congrArg (fun l=>some (tx l)) (if_pos (dec_t hc)).symm),trivial⟩ subl_r (fun _ h=>h)
     ·
      refine QP ?_
      exact X0 ⟨rfl,rfl,(congrArg (fun l=>some (tx l)) (if_neg (dec_f hc)).symm),trivial⟩ subl_r (fun _ h=>h)
    ·
     simp only [List.cons_append,List.nil_append]
     refine J_sr<|JS_mv rfl<|JS_mv rfl<|JS_mv rfl<|QA (J6 rfl rfl (by omega))<|QA (y9 rfl rfl) ?_
     rw [kK]
     refine QI rfl (fun w F hF ⟨hT,_⟩=>NX hF (least:=1) (by omega) (by omega) (by omega)) (fun _=>?_)
     simp only [Int.toNat_natCast,jt]
     refine QA (Zc rfl rfl (by have e:=congrArg List.length (jZ (Rat.divInt n1 (den.natAbs:Int)).num);rw [List.length_append] at e;omega))<|JS_as rfl<|JS_nt<|QG<|QG<|QB ?_
     rw [jZ]
     refine JS_mv rfl<|QA (QV rfl rfl rfl)<|QE<|QC ?_
     refine QR rfl (fun hc=>?_) (fun hc=>?_)
     ·
      have hd1:¬ ((Rat.divInt n1 (den.natAbs:Int)).den:Int)=1:=by have:=dec_t hc;omega
      refine QB<|JS_mv rfl<|QA (Zc rfl rfl (by simp only [List.length_append,List.length_cons,List.length_nil];omega))<|JS_mv rfl<|QI rfl (fun w F hF ⟨⟨hT,_⟩,_⟩=>NX hF (least:=1) (by omega) (by omega) (by omega)) (fun _=>?_)
      simp only [Int.toNat_natCast,jt]
      refine QA (Zc rfl rfl (by simp only [List.length_append,List.length_cons,List.length_nil];omega))<|JS_as rfl<|JS_nt<|J_sr<|JS_mv rfl<|JS_as rfl<|JS_nt<|QT ?_
      exact QQ (()) rfl (.tmp rfl .nil) (by rw [← hq];exact congrArg (fun l=>tx l) (by rw [← CW hd1,Ao])) (fun F ⟨⟨⟨hT,_⟩,_⟩,_⟩=>trivial)
     ·
      have hd1:((Rat.divInt n1 (den.natAbs:Int)).den:Int)=1:=by have:=dec_f hc;omega
      refine QP<|QC<|J_sr<|JS_mv rfl<|JS_as rfl<|JS_nt<|QT ?_
      exact QQ (()) rfl (.tmp rfl .nil) (by rw [← hq];exact congrArg (fun l=>tx l) (zV hd1).symm) (fun F ⟨⟨hT,_⟩,_⟩=>trivial)
end
section
open Go.RowKit Ig
theorem Cq (x:Rat):xX (JQ x)=JQ (-x):=by
 unfold xX NW
 rw [NY]
 by_cases h0:JQ x=[48]
 ·rw [if_pos h0]
  have hx:x=0:=by
   have hv:=Yo x.num
   by_cases hd:x.den=1
   ·rw [(Ni hd).1] at h0
    rw [h0] at hv
    have:x.num=0:=by rw [← hv];rfl
    exact Rat.num_eq_zero.1 this
   ·have:=(G7 hd).2.2.1
    have h1:=(G7 hd).2.1
    rw [h0] at h1
    have h2:=(G7 hd).1
    have h3:0<(Xu x.num).length:=by
     rcases Nat.eq_zero_or_pos (Xu x.num).length with g | g
     ·have e:=List.eq_nil_of_length_eq_zero g
      unfold Xu at e
      rcases Int.lt_or_le x.num 0 with q | q
      ·have:=YB q;unfold Xu at this;rw [this] at e;cases e
      ·have:=Jx q;unfold Xu at this;rw [this] at e;exact absurd e (Ki _)
     ·exact g
    rw [h0] at h2
    simp at h1;omega
  subst hx
  have e:(-0:Rat)=0:=by decide
  rw [e,if_neg (by decide),if_pos rfl]
 ·rw [if_neg h0]
  by_cases hn:x.num<0
  ·rw [if_pos (show(decide (x.num<0))=true by simpa using hn),if_pos (by decide),Ah hn];rfl
  ·rw [if_neg (show ¬ (decide (x.num<0))=true by simpa using hn),if_neg (by decide),if_neg (by decide)]
   have h1:(-x).num<0:=by
    rw [Rat.neg_num]
    have:x.num≠0:=by
     intro e
     have:=Rat.num_eq_zero.1 e
     subst this
     exact h0 PI
    omega
   have:=Ah h1
   rw [Rat.neg_neg] at this
   exact this.symm
theorem LA (x:Rat):NW (JQ x)=EP x.num:=by
 unfold NW
 rw [NY]
 by_cases h0:x=0
 ·subst h0;rw [if_pos PI];rfl
 ·have hn:x.num≠0:=fun e=>h0 (Rat.num_eq_zero.1 e)
  have h1:JQ x≠[48]:=by
   intro e
   have h2:=Cq x
   unfold xX NW at h2
   rw [if_pos e,if_neg (by decide),if_pos rfl,e] at h2
   by_cases hd:x.den=1
   ·have hv:=Yo x.num
    rw [← (Ni hd).1,e] at hv
    exact hn hv.symm
   ·have:=(G7 hd).2.2.1
    have hv:=Yo x.num
    rw [← this,e] at hv
    have h3:=(G7 hd).2.1
    rw [e] at h3
    have h4:ahead XS [48]=1:=by decide
    rw [h4] at h3
    exact absurd h3 (by decide)
  rw [if_neg h1]
  unfold EP
  by_cases g:x.num<0
  ·rw [if_pos (show(decide (x.num<0))=true by simpa using g),if_pos g]
  ·rw [if_neg (show ¬ (decide (x.num<0))=true by simpa using g),if_neg g,if_neg hn]
theorem qC (n:Int):JQ (n:Rat)=Xu n:=by unfold JQ;rw [if_pos (by simp)];simp
theorem Xjx {w:World} {F:Gs} {n:Int} (hF:Fits F w) (hn : -9223372036854775808≤n∧n≤9223372036854775807):QZ Tryz.prog 184 [.int .i64 n] w F (tx (JQ (n:Rat))):=by
 refine QS.intro (G:=fun F=>True) Tryz.func184 rfl (by rfl) rfl rfl hF (fun F' hF'=>trivial)<|J_sr<|JS_as rfl<|JS_nt<|J_sr<|JS_mv rfl<|QI rfl (fun w F hF hT=>E6 hF (hn)) (fun c4=>QI rfl (fun w F hF ⟨hT,h4⟩=>Im hF (h4) (by have:=vb hn;omega)) (fun _=>JS_as rfl<|JS_nt<|QT ?_))
 exact QQ (()) rfl (.tmp rfl .nil) (by rw [qC]) (fun F ⟨⟨hT,h4⟩,_⟩=>trivial)
theorem xG {w:World} {F:Gs} {x y:Rat} (hF:Fits F w) (hx:JL x≤100000) (hy:JL y≤100000):QZ Tryz.prog 92 [tx (JQ x),tx (JQ y)] w F (tx (JQ (x+y))):=by
 refine QS.intro (G:=fun F=>True) Tryz.func92 rfl (by rfl) rfl rfl hF (fun F' hF'=>trivial)<|J_sr<|JS_as rfl<|JS_nt<|J_sr<|JS_mv rfl<|QI rfl (fun w F hF hT=>Ae hF (hx)) (fun c17=>JK _ (fun w F hF ⟨hT,h17⟩=>h17) (fun p17=>JS_mv rfl<|QA (QM rfl rfl)<|QA (QM rfl rfl)<|QA (QM rfl rfl)<|JS_as rfl<|JS_as rfl<|JS_as rfl<|JS_nt<|J_sr<|JS_mv rfl<|QI rfl (fun w F hF ⟨hT,h17⟩=>Ae hF (hy)) (fun c23=>JK _ (fun w F hF ⟨⟨hT,h17⟩,h23⟩=>h23) (fun p23=>?_))))
 refine JS_mv rfl<|QA (QM rfl rfl)<|QA (QM rfl rfl)<|QA (QM rfl rfl)<|JS_as rfl<|JS_as rfl<|JS_as rfl<|JS_nt<|QG<|J_sr<|JS_mv rfl<|JS_mv rfl ?_
 refine Qn (t:=28) rfl (fun hb28=>?_) (fun hb28=>?_)
 ·
  refine QL rfl rfl<|JS_mv rfl<|QA (Qi rfl rfl rfl)<|QE<|QC ?_
  refine QR rfl (fun hc=>?_) (fun hc=>?_)
  ·
   refine QG ?_
   obtain ⟨a1,a2,a3,a4⟩:=p17 hb28
   obtain ⟨b1,b2,b3,b4⟩:=p23 hc
   have xd:=x.den_pos
   have yd:=y.den_pos
   have e1:(x.num*y.den).natAbs<1000000000*1000000000:=by rw [Int.natAbs_mul];exact Nat.mul_lt_mul_of_lt_of_lt a3 (by omega)
   have e2:(y.num*x.den).natAbs<1000000000*1000000000:=by rw [Int.natAbs_mul];exact Nat.mul_lt_mul_of_lt_of_lt b3 (by omega)
   have e3:(x.num*y.num).natAbs<1000000000*1000000000:=by rw [Int.natAbs_mul];exact Nat.mul_lt_mul_of_lt_of_lt a3 b3
   have e4:((x.den:Int)*y.den).natAbs<1000000000*1000000000:=by rw [Int.natAbs_mul];exact Nat.mul_lt_mul_of_lt_of_lt (by omega) (by omega)
   have e5:(x.den:Int)*y.den≠0:=by have h1:=Yi x;have h2:=Yi y;exact Int.mul_ne_zero h1 h2
   rw [a1,a2,b1,b2]
   refine QB<|JS_mv rfl<|JS_mv rfl<|QA (Ga rfl rfl (by omega))<|JS_mv rfl<|JS_mv rfl<|QA (Ga rfl rfl (by omega))<|QA (Qu rfl rfl (by omega))<|JS_mv rfl<|JS_mv rfl<|QA (Ga rfl rfl (by omega))<|QI rfl (fun w F hF ⟨⟨hT,h17⟩,h23⟩=>gP hF (by omega) (by omega) (e5)) (fun _=>JS_as rfl<|JS_nt<|QT ?_)
   exact QQ (()) rfl (.tmp rfl .nil) (by rw [W3]) (fun F ⟨⟨⟨hT,h17⟩,h23⟩,_⟩=>trivial)
  ·
   refine QP<|QC<|QG ?_
   have s1:=Jf x
   have s2:=Jb x
   have s3:=Jf y
   have s4:=Jb y
   have m1:=Ve x.num y.den
   have m2:=Ve y.num x.den
   have m3:=Ve (x.den:Int) y.den
   have m4:=Ve x.num y.num
   have m5:=UK (x.num*y.den) (y.num*x.den)
   have e5:(x.den:Int)*y.den≠0:=Int.mul_ne_zero (Yi x) (Yi y)
   refine QB<|JS_mv rfl<|QI rfl (fun w F hF ⟨⟨hT,h17⟩,h23⟩=>Wn hF (hx)) (fun c44=>JS_mv rfl<|QA (QM rfl rfl)<|QA (QM rfl rfl)<|Qb Z6 (fun b11=>Qb Z6 (fun b12=>QN (vs:=[_,_]) rfl rfl rfl JH rfl (.there .here) (.here (.here .nil)) ⟨rfl,rfl,trivial⟩<|QN (vs:=[_,_]) rfl rfl rfl JH rfl .here (.here (.here .nil)) ⟨rfl,rfl,trivial⟩<|JS_nt<|J_sr<|JS_mv rfl<|QI rfl (fun w F hF ⟨⟨⟨hT,h17⟩,h23⟩,h44⟩=>Wn hF (hy)) (fun c49=>JS_mv rfl<|QA (QM rfl rfl)<|QA (QM rfl rfl)<|Qb Z6 (fun b13=>Qb Z6 (fun b14=>QN (vs:=[_,_]) rfl rfl rfl JH rfl (.there .here) (.here (.here .nil)) ⟨rfl,rfl,trivial⟩<|QN (vs:=[_,_]) rfl rfl rfl JH rfl .here (.here (.here .nil)) ⟨rfl,rfl,trivial⟩<|QE<|QC ?_))))))
   refine QG<|JN subl_r mixed (by kernel_rfl)<|QK (QJ (vs:=[_,_]) rfl JH (.there (.there (.there .here))) (.here (.here .nil)) rfl)<|QK (QJ (vs:=[_,_]) rfl JH .here (.here (.here .nil)) rfl)<|QY rfl (fun w F hF ⟨⟨⟨⟨hT,h17⟩,h23⟩,h44⟩,h49⟩=>Gn hF (h44.1) (h49.2) (by omega) (by omega)) (fun c54=>QK (QJ (vs:=[_,_]) rfl JH (.there .here) (.here (.here .nil)) rfl)<|QK (QJ (vs:=[_,_]) rfl JH (.there (.there .here)) (.here (.here .nil)) rfl)<|QY rfl (fun w F hF ⟨⟨⟨⟨⟨hT,h17⟩,h23⟩,h44⟩,h49⟩,h54⟩=>Gn hF (h49.1) (h44.2) (by omega) (by omega)) (fun c57=>QY rfl (fun w F hF ⟨⟨⟨⟨⟨⟨hT,h17⟩,h23⟩,h44⟩,h49⟩,h54⟩,h57⟩=>zS hF (h54) (h57) (by omega) (by omega)) (fun c58=>QK (QJ (vs:=[_,_]) rfl JH (.there (.there .here)) (.here (.here .nil)) rfl)<|QK (QJ (vs:=[_,_]) rfl JH .here (.here (.here .nil)) rfl)<|QY rfl (fun w F hF ⟨⟨⟨⟨⟨⟨⟨hT,h17⟩,h23⟩,h44⟩,h49⟩,h54⟩,h57⟩,h58⟩=>Gn hF (h44.2) (h49.2) (by omega) (by omega)) (fun c61=>QY rfl (fun w F hF ⟨⟨⟨⟨⟨⟨⟨⟨hT,h17⟩,h23⟩,h44⟩,h49⟩,h54⟩,h57⟩,h58⟩,h61⟩=>Hm hF (h58) (h61) (e5) (by omega) (by omega)) (fun _=>QK (QF rfl)<|Q4<|QC<|QT ?_)))))
   exact QQ (()) rfl (.tmp rfl .nil) (by rw [W3]) (fun F ⟨⟨⟨⟨⟨⟨⟨⟨⟨hT,h17⟩,h23⟩,h44⟩,h49⟩,h54⟩,h57⟩,h58⟩,h61⟩,_⟩=>trivial)
 ·
  refine QO rfl rfl rfl<|QA (Qh rfl rfl rfl)<|JS_nt<|Z8 rfl<|QP<|QC<|QG ?_
  have s1:=Jf x
  have s2:=Jb x
  have s3:=Jf y
  have s4:=Jb y
  have m1:=Ve x.num y.den
  have m2:=Ve y.num x.den
  have m3:=Ve (x.den:Int) y.den
  have m4:=Ve x.num y.num
  have m5:=UK (x.num*y.den) (y.num*x.den)
  have e5:(x.den:Int)*y.den≠0:=Int.mul_ne_zero (Yi x) (Yi y)
  refine QB<|JS_mv rfl<|QI rfl (fun w F hF ⟨⟨hT,h17⟩,h23⟩=>Wn hF (hx)) (fun c44=>JS_mv rfl<|QA (QM rfl rfl)<|QA (QM rfl rfl)<|Qb Z6 (fun b11=>Qb Z6 (fun b12=>QN (vs:=[_,_]) rfl rfl rfl JH rfl (.there .here) (.here (.here .nil)) ⟨rfl,rfl,trivial⟩<|QN (vs:=[_,_]) rfl rfl rfl JH rfl .here (.here (.here .nil)) ⟨rfl,rfl,trivial⟩<|JS_nt<|J_sr<|JS_mv rfl<|QI rfl (fun w F hF ⟨⟨⟨hT,h17⟩,h23⟩,h44⟩=>Wn hF (hy)) (fun c49=>JS_mv rfl<|QA (QM rfl rfl)<|QA (QM rfl rfl)<|Qb Z6 (fun b13=>Qb Z6 (fun b14=>QN (vs:=[_,_]) rfl rfl rfl JH rfl (.there .here) (.here (.here .nil)) ⟨rfl,rfl,trivial⟩<|QN (vs:=[_,_]) rfl rfl rfl JH rfl .here (.here (.here .nil)) ⟨rfl,rfl,trivial⟩<|QE<|QC ?_))))))
  refine QG<|JN subl_r mixed (by kernel_rfl)<|QK (QJ (vs:=[_,_]) rfl JH (.there (.there (.there .here))) (.here (.here .nil)) rfl)<|QK (QJ (vs:=[_,_]) rfl JH .here (.here (.here .nil)) rfl)<|QY rfl (fun w F hF ⟨⟨⟨⟨hT,h17⟩,h23⟩,h44⟩,h49⟩=>Gn hF (h44.1) (h49.2) (by omega) (by omega)) (fun c54=>QK (QJ (vs:=[_,_]) rfl JH (.there .here) (.here (.here .nil)) rfl)<|QK (QJ (vs:=[_,_]) rfl JH (.there (.there .here)) (.here (.here .nil)) rfl)<|QY rfl (fun w F hF ⟨⟨⟨⟨⟨hT,h17⟩,h23⟩,h44⟩,h49⟩,h54⟩=>Gn hF (h49.1) (h44.2) (by omega) (by omega)) (fun c57=>QY rfl (fun w F hF ⟨⟨⟨⟨⟨⟨hT,h17⟩,h23⟩,h44⟩,h49⟩,h54⟩,h57⟩=>zS hF (h54) (h57) (by omega) (by omega)) (fun c58=>QK (QJ (vs:=[_,_]) rfl JH (.there (.there .here)) (.here (.here .nil)) rfl)<|QK (QJ (vs:=[_,_]) rfl JH .here (.here (.here .nil)) rfl)<|QY rfl (fun w F hF ⟨⟨⟨⟨⟨⟨⟨hT,h17⟩,h23⟩,h44⟩,h49⟩,h54⟩,h57⟩,h58⟩=>Gn hF (h44.2) (h49.2) (by omega) (by omega)) (fun c61=>QY rfl (fun w F hF ⟨⟨⟨⟨⟨⟨⟨⟨hT,h17⟩,h23⟩,h44⟩,h49⟩,h54⟩,h57⟩,h58⟩,h61⟩=>Hm hF (h58) (h61) (e5) (by omega) (by omega)) (fun _=>QK (QF rfl)<|Q4<|QC<|QT ?_)))))
  exact QQ (()) rfl (.tmp rfl .nil) (by rw [W3]) (fun F ⟨⟨⟨⟨⟨⟨⟨⟨⟨hT,h17⟩,h23⟩,h44⟩,h49⟩,h54⟩,h57⟩,h58⟩,h61⟩,_⟩=>trivial)
theorem RI {w:World} {F:Gs} {x y:Rat} (hF:Fits F w) (hx:JL x≤100000) (hy:JL y≤100000):QZ Tryz.prog 93 [tx (JQ x),tx (JQ y)] w F (tx (JQ (x*y))):=by
 refine QS.intro (G:=fun F=>True) Tryz.func93 rfl (by rfl) rfl rfl hF (fun F' hF'=>trivial)<|J_sr<|JS_as rfl<|JS_nt<|J_sr<|JS_mv rfl<|QI rfl (fun w F hF hT=>Ae hF (hx)) (fun c17=>JK _ (fun w F hF ⟨hT,h17⟩=>h17) (fun p17=>JS_mv rfl<|QA (QM rfl rfl)<|QA (QM rfl rfl)<|QA (QM rfl rfl)<|JS_as rfl<|JS_as rfl<|JS_as rfl<|JS_nt<|J_sr<|JS_mv rfl<|QI rfl (fun w F hF ⟨hT,h17⟩=>Ae hF (hy)) (fun c23=>JK _ (fun w F hF ⟨⟨hT,h17⟩,h23⟩=>h23) (fun p23=>?_))))
 refine JS_mv rfl<|QA (QM rfl rfl)<|QA (QM rfl rfl)<|QA (QM rfl rfl)<|JS_as rfl<|JS_as rfl<|JS_as rfl<|JS_nt<|QG<|J_sr<|JS_mv rfl<|JS_mv rfl ?_
 refine Qn (t:=28) rfl (fun hb28=>?_) (fun hb28=>?_)
 ·
  refine QL rfl rfl<|JS_mv rfl<|QA (Qi rfl rfl rfl)<|QE<|QC ?_
  refine QR rfl (fun hc=>?_) (fun hc=>?_)
  ·
   refine QG ?_
   obtain ⟨a1,a2,a3,a4⟩:=p17 hb28
   obtain ⟨b1,b2,b3,b4⟩:=p23 hc
   have xd:=x.den_pos
   have yd:=y.den_pos
   have e1:(x.num*y.den).natAbs<1000000000*1000000000:=by rw [Int.natAbs_mul];exact Nat.mul_lt_mul_of_lt_of_lt a3 (by omega)
   have e2:(y.num*x.den).natAbs<1000000000*1000000000:=by rw [Int.natAbs_mul];exact Nat.mul_lt_mul_of_lt_of_lt b3 (by omega)
   have e3:(x.num*y.num).natAbs<1000000000*1000000000:=by rw [Int.natAbs_mul];exact Nat.mul_lt_mul_of_lt_of_lt a3 b3
   have e4:((x.den:Int)*y.den).natAbs<1000000000*1000000000:=by rw [Int.natAbs_mul];exact Nat.mul_lt_mul_of_lt_of_lt (by omega) (by omega)
   have e5:(x.den:Int)*y.den≠0:=by have h1:=Yi x;have h2:=Yi y;exact Int.mul_ne_zero h1 h2
   rw [a1,a2,b1,b2]
   refine QB<|JS_mv rfl<|JS_mv rfl<|QA (Ga rfl rfl (by omega))<|JS_mv rfl<|JS_mv rfl<|QA (Ga rfl rfl (by omega))<|QI rfl (fun w F hF ⟨⟨hT,h17⟩,h23⟩=>gP hF (by omega) (by omega) (e5)) (fun _=>JS_as rfl<|JS_nt<|QT ?_)
   exact QQ (()) rfl (.tmp rfl .nil) (by rw [Wv]) (fun F ⟨⟨⟨hT,h17⟩,h23⟩,_⟩=>trivial)
  ·
   refine QP<|QC<|QG ?_
   have s1:=Jf x
   have s2:=Jb x
   have s3:=Jf y
   have s4:=Jb y
   have m1:=Ve x.num y.den
   have m2:=Ve y.num x.den
   have m3:=Ve (x.den:Int) y.den
   have m4:=Ve x.num y.num
   have m5:=UK (x.num*y.den) (y.num*x.den)
   have e5:(x.den:Int)*y.den≠0:=Int.mul_ne_zero (Yi x) (Yi y)
   refine QB<|JS_mv rfl<|QI rfl (fun w F hF ⟨⟨hT,h17⟩,h23⟩=>Wn hF (hx)) (fun c40=>JS_mv rfl<|QA (QM rfl rfl)<|QA (QM rfl rfl)<|Qb Z6 (fun b11=>Qb Z6 (fun b12=>QN (vs:=[_,_]) rfl rfl rfl JH rfl (.there .here) (.here (.here .nil)) ⟨rfl,rfl,trivial⟩<|QN (vs:=[_,_]) rfl rfl rfl JH rfl .here (.here (.here .nil)) ⟨rfl,rfl,trivial⟩<|JS_nt<|J_sr<|JS_mv rfl<|QI rfl (fun w F hF ⟨⟨⟨hT,h17⟩,h23⟩,h40⟩=>Wn hF (hy)) (fun c45=>JS_mv rfl<|QA (QM rfl rfl)<|QA (QM rfl rfl)<|Qb Z6 (fun b13=>Qb Z6 (fun b14=>QN (vs:=[_,_]) rfl rfl rfl JH rfl (.there .here) (.here (.here .nil)) ⟨rfl,rfl,trivial⟩<|QN (vs:=[_,_]) rfl rfl rfl JH rfl .here (.here (.here .nil)) ⟨rfl,rfl,trivial⟩<|QE<|QC ?_))))))
   refine QG<|JN subl_r mixed (by kernel_rfl)<|QK (QJ (vs:=[_,_]) rfl JH (.there (.there (.there .here))) (.here (.here .nil)) rfl)<|QK (QJ (vs:=[_,_]) rfl JH (.there .here) (.here (.here .nil)) rfl)<|QY rfl (fun w F hF ⟨⟨⟨⟨hT,h17⟩,h23⟩,h40⟩,h45⟩=>Gn hF (h40.1) (h45.1) (by omega) (by omega)) (fun c50=>QK (QJ (vs:=[_,_]) rfl JH (.there (.there .here)) (.here (.here .nil)) rfl)<|QK (QJ (vs:=[_,_]) rfl JH .here (.here (.here .nil)) rfl)<|QY rfl (fun w F hF ⟨⟨⟨⟨⟨hT,h17⟩,h23⟩,h40⟩,h45⟩,h50⟩=>Gn hF (h40.2) (h45.2) (by omega) (by omega)) (fun c53=>QY rfl (fun w F hF ⟨⟨⟨⟨⟨⟨hT,h17⟩,h23⟩,h40⟩,h45⟩,h50⟩,h53⟩=>Hm hF (h50) (h53) (e5) (by omega) (by omega)) (fun _=>QK (QF rfl)<|Q4<|QC<|QT ?_)))
   exact QQ (()) rfl (.tmp rfl .nil) (by rw [Wv]) (fun F ⟨⟨⟨⟨⟨⟨⟨hT,h17⟩,h23⟩,h40⟩,h45⟩,h50⟩,h53⟩,_⟩=>trivial)
 ·
  refine QO rfl rfl rfl<|QA (Qh rfl rfl rfl)<|JS_nt<|Z8 rfl<|QP<|QC<|QG ?_
  have s1:=Jf x
  have s2:=Jb x
  have s3:=Jf y
  have s4:=Jb y
  have m1:=Ve x.num y.den
  have m2:=Ve y.num x.den
  have m3:=Ve (x.den:Int) y.den
  have m4:=Ve x.num y.num
  have m5:=UK (x.num*y.den) (y.num*x.den)
  have e5:(x.den:Int)*y.den≠0:=Int.mul_ne_zero (Yi x) (Yi y)
  refine QB<|JS_mv rfl<|QI rfl (fun w F hF ⟨⟨hT,h17⟩,h23⟩=>Wn hF (hx)) (fun c40=>JS_mv rfl<|QA (QM rfl rfl)<|QA (QM rfl rfl)<|Qb Z6 (fun b11=>Qb Z6 (fun b12=>QN (vs:=[_,_]) rfl rfl rfl JH rfl (.there .here) (.here (.here .nil)) ⟨rfl,rfl,trivial⟩<|QN (vs:=[_,_]) rfl rfl rfl JH rfl .here (.here (.here .nil)) ⟨rfl,rfl,trivial⟩<|JS_nt<|J_sr<|JS_mv rfl<|QI rfl (fun w F hF ⟨⟨⟨hT,h17⟩,h23⟩,h40⟩=>Wn hF (hy)) (fun c45=>JS_mv rfl<|QA (QM rfl rfl)<|QA (QM rfl rfl)<|Qb Z6 (fun b13=>Qb Z6 (fun b14=>QN (vs:=[_,_]) rfl rfl rfl JH rfl (.there .here) (.here (.here .nil)) ⟨rfl,rfl,trivial⟩<|QN (vs:=[_,_]) rfl rfl rfl JH rfl .here (.here (.here .nil)) ⟨rfl,rfl,trivial⟩<|QE<|QC ?_))))))
  refine QG<|JN subl_r mixed (by kernel_rfl)<|QK (QJ (vs:=[_,_]) rfl JH (.there (.there (.there .here))) (.here (.here .nil)) rfl)<|QK (QJ (vs:=[_,_]) rfl JH (.there .here) (.here (.here .nil)) rfl)<|QY rfl (fun w F hF ⟨⟨⟨⟨hT,h17⟩,h23⟩,h40⟩,h45⟩=>Gn hF (h40.1) (h45.1) (by omega) (by omega)) (fun c50=>QK (QJ (vs:=[_,_]) rfl JH (.there (.there .here)) (.here (.here .nil)) rfl)<|QK (QJ (vs:=[_,_]) rfl JH .here (.here (.here .nil)) rfl)<|QY rfl (fun w F hF ⟨⟨⟨⟨⟨hT,h17⟩,h23⟩,h40⟩,h45⟩,h50⟩=>Gn hF (h40.2) (h45.2) (by omega) (by omega)) (fun c53=>QY rfl (fun w F hF ⟨⟨⟨⟨⟨⟨hT,h17⟩,h23⟩,h40⟩,h45⟩,h50⟩,h53⟩=>Hm hF (h50) (h53) (e5) (by omega) (by omega)) (fun _=>QK (QF rfl)<|Q4<|QC<|QT ?_)))
  exact QQ (()) rfl (.tmp rfl .nil) (by rw [Wv]) (fun F ⟨⟨⟨⟨⟨⟨⟨hT,h17⟩,h23⟩,h40⟩,h45⟩,h50⟩,h53⟩,_⟩=>trivial)
end
section
open Go.RowKit Ig
theorem zu {w:World} {F:Gs} {s:List UInt8} (hF:Fits F w) (hl:s.length≤1000000) (h1:XF (Lib.trimPrefix (s.take (ahead XS s)) [45])=true) (h2:ahead XS s<s.length→XF (Lib.trimPrefix (s.drop (ahead XS s+1)) [45])=true):QS Tryz.prog 119 [tx s] w F Ri.v2 (fun c F=>VP F c.1 (Zv (s.take (ahead XS s)))∧(ahead XS s<s.length→VP F c.2 (Zv (s.drop (ahead XS s+1))))):=by
 have hah:=Bi XS s
 refine QS.intro (G:=fun F=>True) Tryz.func119 rfl (by rfl) rfl rfl hF (fun F' hF'=>trivial)<|J_sr<|Qb Z6 (fun b2=>Qb Z6 (fun b3=>JS_nt<|J_sr<|JS_mv rfl<|JS_as rfl<|JS_nt<|J_sr<|JS_mv rfl<|QI rfl (fun w F hF hT=>BA hF (by omega)) (fun _=>JS_as rfl<|JS_nt<|QG<|J_sr<|JS_mv rfl<|JS_mv rfl ?_)))
 refine QA (J9 rfl Xh)<|QA (QV rfl rfl rfl)<|QE<|QC ?_
 refine QR rfl (fun hc=>?_) (fun hc=>?_)
 ·
  have hd:ahead XS s=s.length:=by have:(ahead XS s:Int)=(s.length:Int):=(by simpa using hc);omega
  refine J_sr<|JS_mv rfl<|QI rfl (fun w F hF ⟨hT,_⟩=>Gp hF (by rw [hd,List.take_length] at h1;exact h1) (by omega)) (fun c14=>QI rfl (fun w F hF ⟨⟨hT,_⟩,h14⟩=>E6 hF (by decide)) (fun c15=>QN (vs:=[_,_]) rfl rfl rfl JH rfl (.there .here) (.here (.here .nil)) ⟨rfl,rfl,trivial⟩<|QN (vs:=[_,_]) rfl rfl rfl JH rfl .here (.here (.here .nil)) ⟨rfl,rfl,trivial⟩<|JS_nt<|QT ?_))
  exact JY ((c14,c15):Ri×Ri) rfl (.JU (c:=[_,_]) rfl JH (.there .here) (.JU (c:=[_,_]) rfl JH .here .nil)) (rfl) (fun F ⟨⟨⟨hT,_⟩,h14⟩,h15⟩=>⟨by rw [hd,List.take_length];exact h14,fun g=>by omega⟩)
 ·
  have hd:ahead XS s<s.length:=by rcases Nat.lt_or_ge (ahead XS s) s.length with g | g;exact g;exact absurd (show ahead XS s=s.length by omega) (fun e=>by rw [e] at hc;simp at hc)
  refine QP<|QC<|QG<|JN (.cons _ (.cons _ .slnil)) mixed (by kernel_rfl)<|QK (QD rfl)<|QK (QD rfl)<|QK (Gx (ahead XS s) rfl rfl Xh rfl (by omega))<|QY rfl (fun w F hF ⟨hT,_⟩=>Gp hF (h1) (by rw [List.length_take];omega)) (fun c19=>QK (QD rfl)<|QK (QD rfl)<|QK (Qu rfl rfl (by omega))<|QK (Kd ((ahead XS s+1)) rfl rfl Xh (congrArg (fun z:Int=>some (Value.int .i64 z)) (by omega)) (by omega))<|QY rfl (fun w F hF ⟨⟨hT,_⟩,VV⟩=>Gp hF (h2 hd) (by rw [List.length_drop];omega)) (fun c24=>Q7 (vs:=[_,_]) rfl rfl rfl JH rfl (.there .here) (.cons _ .slnil) (fun _ h=>h.1.1) (.here (.here .nil)) ⟨rfl,rfl,trivial⟩<|Q7 (vs:=[_,_]) rfl rfl rfl JH rfl .here (.cons _ .slnil) (fun _ h=>h.1.1) (.here (.here .nil)) ⟨rfl,rfl,trivial⟩<|Q4<|QC<|QT ?_))
  exact JY ((c19,c24):Ri×Ri) rfl (.JU (c:=[_,_]) rfl JH (.there .here) (.JU (c:=[_,_]) rfl JH .here .nil)) (rfl) (fun F ⟨⟨⟨hT,_⟩,VV⟩,h24⟩=>⟨VV,fun _=>h24⟩)
theorem It {l:List UInt8} (h:(!XV l)=false):0<l.length:=by
 rcases Nat.eq_zero_or_pos l.length with g | g
 ·rw [List.eq_nil_of_length_eq_zero g] at h;simp [XV] at h
 ·exact g
theorem vZ {p:UInt8→Bool} {s:List UInt8} (h:∀ c∈s,p c=true):s.takeWhile p=s:=by
 induction s with
 |nil=>rfl
 |cons c r ih=>rw [List.takeWhile_cons_of_pos (h c (by simp)),ih (fun d hd=>h d (by simp [hd]))]
theorem zQ {l:List UInt8} (h:XF l=true):sz (Q8 l:Int)≤4*l.length:=by
 rw [Xx]
 have h1:=Vm h
 have h2:10^l.length≤2^(4*l.length):=by rw [Nat.pow_mul];exact Nat.pow_le_pow_left (by decide) _
 simp;omega
theorem yS (s:List UInt8):(ZM 47 s).1=s.take (ahead XS s)∧(ZM 47 s).2.1=s.drop (ahead XS s+1)∧(ZM 47 s).2.2=decide (ahead XS s<s.length):=by
 have hf:(fun c:UInt8=>!XS c)=fun c=>c != 47:=by funext c;simp [XS,bne]
 have h1:=Kq (fun c:UInt8=>c != 47) s
 have ha:ahead XS s=(s.takeWhile (fun c=>c != 47)).length:=by unfold ahead;rw [hf]
 rw [ha]
 by_cases hc:s.contains 47=true
 ·have e:ZM 47 s=(s.takeWhile (· != 47),(s.dropWhile (· != 47)).drop 1,true):=by unfold ZM;rw [if_pos hc]
  rw [e]
  obtain ⟨r,hr⟩:=DW (show(47:UInt8)∈s by simpa using hc)
  have hd:=h1.2
  rw [hr] at hd
  refine⟨h1.1.symm,?_,?_⟩
  ·show(s.dropWhile (· != 47)).drop 1=_
   rw [hr,← List.drop_drop,hd]
  ·have:(s.takeWhile (fun c=>c != 47)).length<s.length:=by
    have:=congrArg List.length hd
    rw [List.length_drop,List.length_cons] at this;omega
   simp [this]
 ·have e:ZM 47 s=(s,[],false):=by unfold ZM;rw [if_neg hc]
  rw [e]
  have h2:s.takeWhile (fun c=>c != 47)=s:=by
   refine vZ fun c hm=>?_
   have:c≠47:=by rintro rfl;exact hc (by simpa using hm)
   simpa using this
  rw [h2]
  simp
theorem yg (s:List UInt8):Lib.trimPrefix (ZM 47 s).1 [45]=(ZM 47 (Lib.trimPrefix s [45])).1∧Lib.hasPrefix (ZM 47 s).1 [45]=Lib.hasPrefix s [45]∧(ZM 47 s).2=(ZM 47 (Lib.trimPrefix s [45])).2:=by
 cases s with
 |nil=>exact⟨rfl,rfl,rfl⟩
 |cons c r =>
  by_cases hc:c=45
  ·subst hc
   have e:Lib.trimPrefix (45::r) [45]=r:=rfl
   rw [e]
   unfold ZM
   have h0:((45:UInt8)::r).contains 47=r.contains 47:=by simp
   rw [h0]
   split
   ·exact⟨rfl,rfl,rfl⟩
   ·exact⟨rfl,rfl,rfl⟩
  ·have hp:Lib.hasPrefix (c::r) [45]=false:=by
    rw [Wr (by simp)];simpa using hc
   have e:Lib.trimPrefix (c::r) [45]=c::r:=by unfold Lib.trimPrefix;rw [if_neg (by rw [hp];decide)]
   rw [e]
   have e2:∀ l:List UInt8,Lib.hasPrefix l [45]=false→Lib.trimPrefix l [45]=l:=fun l h=>by unfold Lib.trimPrefix;rw [if_neg (by rw [h];decide)]
   have h3:Lib.hasPrefix (ZM 47 (c::r)).1 [45]=false:=by
    unfold ZM
    split
    ·by_cases h47:c=47
     ·subst h47;rfl
     ·rw [List.takeWhile_cons_of_pos (by simpa using h47),Wr (by simp)];simpa using hc
    ·exact hp
   exact⟨e2 _ h3,by rw [h3,hp],rfl⟩
theorem gJ {s:List UInt8} (h1:Ii s=false) (h2:IN s=false) (hk:ahead XS (Lib.trimPrefix s [45])<(Lib.trimPrefix s [45]).length):XF ((Lib.trimPrefix s [45]).take (ahead XS (Lib.trimPrefix s [45])))=true∧XF (Nu s)=true:=by
 have hs:PC s=true:=by simp [PC];exact hk
 simp only [Ii,Bool.or_eq_false_iff,Bool.not_eq_false'] at h1
 simp only [IN,hs,Bool.true_and,Bool.or_eq_false_iff,Bool.not_eq_false'] at h2
 exact⟨Kw h1.1,Kw h2.1⟩
theorem yQ (s:List UInt8):Rz s=Jy s:=by
 obtain ⟨t1,t2,t3⟩:=yg s
 obtain ⟨c1,c2,c3⟩:=yS (Lib.trimPrefix s [45])
 have t4:(ZM 47 s).2.1=Nu s:=by rw [t3,c2];rfl
 have t5:(ZM 47 s).2.2=PC s:=by rw [t3,c3];rfl
 have hlen:(Lib.trimPrefix s [45]).take (ahead XS (Lib.trimPrefix s [45]))=(Lib.trimPrefix s [45]).take (ahead XS (Lib.trimPrefix s [45])):=rfl
 have hk:((Lib.trimPrefix s [45]).take (ahead XS (Lib.trimPrefix s [45]))).length=ahead XS (Lib.trimPrefix s [45]):=by
  rw [List.length_take];have:=Bi XS (Lib.trimPrefix s [45]);omega
 unfold Jy Gg Rz AN Ii IN Oi OS
 rw [t1,t2,t4,t5,c1,hk]
 generalize (Lib.trimPrefix s [45]).take (ahead XS (Lib.trimPrefix s [45]))=a
 generalize Nu s=d
 generalize PC s=f
 generalize Lib.hasPrefix s [45]=n
 have e:(!XV a||(n&&a==[48])||(f&&(!XV d||d==[48]||d==[49])))=((!XV a||(n&&a==[48]))||(f&&(!XV d||(d==[48]||d==[49])))):=by rw [Bool.or_assoc (!XV d)]
 rw [e]
 cases (!XV a||(n&&a==[48]))<;>cases (f&&(!XV d||(d==[48]||d==[49])))<;>rfl
theorem LU {w:World} {F:Gs} {s:List UInt8} (hF:Fits F w) (hl:s.length≤1000000):QZ Tryz.prog 20 [tx s] w F (.int .i64 (Jy s)):=by
 rw [← yQ]
 have hln:(Lib.trimPrefix s [45]).length≤s.length:=DZ _ _
 have hah:=Bi XS (Lib.trimPrefix s [45])
 refine QS.intro (G:=fun F=>True) Tryz.func20 rfl (by rfl) rfl rfl hF (fun F' hF'=>trivial)<|J_sr<|JS_as rfl<|JS_nt<|J_sr<|JS_mv rfl<|JS_as rfl<|QE<|QC ?_
 refine KZ [(0,_)] [(3,tx (Lib.trimPrefix s [45]))] ⟨rfl,trivial⟩ ?_ ?_
 ·
  refine KZ [(0,_),(3,_)] [(16,.bool (Lib.hasPrefix s [45]))] ⟨rfl,rfl,trivial⟩ ?_ ?_
  ·
   refine QB<|JS_mv rfl<|QA (J9 rfl Xh)<|QA (QV rfl rfl rfl)<|JS_mv rfl ?_
   refine Qn (t:=12) rfl (fun hb12=>?_) (fun hb12=>?_)
   ·
    refine QL rfl rfl<|JS_mv rfl<|QL rfl rfl<|QA (Vn (i:=0) rfl rfl Xh (by have:=dec_t hb12;omega))<|QL rfl rfl<|QA (QV rfl rfl rfl)<|QA (Qi rfl rfl rfl)<|QE ?_
    exact X0 ⟨rfl,rfl,(congrArg (fun b=>some (Value.bool b)) (by have h0:0<s.length:=(by have:=dec_t hb12;omega);rw [Wr h0];exact MD rfl)),trivial⟩ subl_r (fun _ h=>h)
   ·
    refine QO rfl rfl rfl<|QO rfl rfl rfl<|QO rfl rfl rfl<|QA (Qh rfl rfl rfl)<|QE ?_
    exact X0 ⟨rfl,rfl,(congrArg (fun b=>some (Value.bool b)) (by have h0:s.length=0:=(by have:=dec_f hb12;omega);rw [List.eq_nil_of_length_eq_zero h0];rfl)),trivial⟩ subl_r (fun _ h=>h)
  ·
   simp only [List.cons_append,List.nil_append]
   refine QR rfl (fun hc=>?_) (fun hc=>?_)
   ·
    refine QB<|JS_mv rfl<|QA (Kd (1) rfl rfl Xh rfl (Mc hc))<|JS_as rfl<|QE ?_
    exact X0 ⟨rfl,(congrArg (fun l=>some (tx l)) (by unfold Lib.trimPrefix;rw [if_pos hc];rfl)),trivial⟩ subl_r (fun _ h=>h)
   ·
    refine QP ?_
    exact X0 ⟨rfl,(congrArg (fun l=>some (tx l)) (by unfold Lib.trimPrefix;rw [hc];rfl)),trivial⟩ subl_r (fun _ h=>h)
 ·
  simp only [List.cons_append,List.nil_append]
  refine J_sr<|JS_mv rfl<|QI rfl (fun w F hF hT=>BA hF (by omega)) (fun _=>JS_as rfl<|JS_nt<|QG ?_)
  refine KZ [(3,_),(4,_)] [(36,.bool (Ii s))] ⟨rfl,rfl,trivial⟩ ?_ ?_
  ·
   refine QB<|JS_mv rfl<|JS_mv rfl<|QA (Gx ((ahead XS (Lib.trimPrefix s [45]))) rfl rfl Xh rfl (by omega))<|QI rfl (fun w F hF ⟨hT,_⟩=>zU hF (by rw [List.length_take];omega)) (fun _=>QA (Yt rfl)<|JS_mv rfl ?_)
   refine Qn (t:=26) rfl (fun hb26=>?_) (fun hb26=>?_)
   ·
    refine QO rfl rfl rfl<|QO rfl rfl rfl<|QO rfl rfl rfl<|QO rfl rfl rfl<|JV rfl rfl<|JV rfl rfl<|JV rfl rfl<|JV rfl rfl<|QO rfl rfl rfl<|QA (Qi rfl rfl rfl)<|QE ?_
    exact X0 ⟨rfl,rfl,(congrArg (fun b=>some (Value.bool b)) (by simp [Ii] at hb26 ⊢;simp [hb26])),trivial⟩ subl_r (fun _ h=>h.1)
   ·
    refine QL rfl rfl<|JS_mv rfl<|QL rfl rfl<|QA (Vn (i:=0) rfl rfl MQ (by have h1:=It hb26;rw [List.length_take] at h1;omega))<|QL rfl rfl<|QA (QV rfl rfl rfl)<|QL rfl rfl<|JS_mv rfl ?_
    refine Qn (t:=30) rfl (fun hb30=>?_) (fun hb30=>?_)
    ·
     refine QL rfl rfl<|JS_mv rfl<|QL rfl rfl<|JS_mv rfl<|QL rfl rfl<|QA (Gx ((ahead XS (Lib.trimPrefix s [45]))) rfl rfl Xh rfl (by omega))<|QL rfl rfl<|QA (K3 rfl rfl)<|QL rfl rfl<|QA (Qi rfl rfl rfl)<|QA (Qh rfl rfl rfl)<|QE ?_
     exact X0 ⟨rfl,rfl,(congrArg (fun b=>some (Value.bool b)) (by have h0:0<s.length:=(by have h1:=It hb26;rw [List.length_take] at h1;omega);have hp:Lib.hasPrefix s [45]=true:=(by rw [Wr h0,← MD (z:=45) rfl];exact hb30);simp [Ii] at hb26 ⊢;simp [hb26,hp])),trivial⟩ subl_r (fun _ h=>h.1)
    ·
     refine QO rfl rfl rfl<|QO rfl rfl rfl<|QO rfl rfl rfl<|QO rfl rfl rfl<|QL rfl rfl<|QA (Qh rfl rfl rfl)<|QA (Qh rfl rfl rfl)<|QE ?_
     exact X0 ⟨rfl,rfl,(congrArg (fun b=>some (Value.bool b)) (by have h0:0<s.length:=(by have h1:=It hb26;rw [List.length_take] at h1;omega);have hp:Lib.hasPrefix s [45]=false:=(by rw [Wr h0,← MD (z:=45) rfl];exact hb30);simp [Ii] at hb26 ⊢;simp [hb26,hp])),trivial⟩ subl_r (fun _ h=>h.1)
  ·
   simp only [List.cons_append,List.nil_append]
   refine QR rfl (fun hc=>?_) (fun hc=>?_)
   ·
    have hb1:Ii s=true:=hc
    refine J_sr<|JS_as rfl<|JS_nt<|QT ?_
    exact QQ (()) rfl (.tmp rfl .nil) (congrArg (Value.int .i64) (by simp [Rz,hb1])) (fun F ⟨hT,_⟩=>trivial)
   ·
    have hb1:Ii s=false:=hc
    refine QP<|QC<|QG ?_
    refine KZ [(3,_),(4,_)] [(62,.bool (IN s))] ⟨rfl,rfl,trivial⟩ ?_ ?_
    ·
     refine QB<|JS_mv rfl<|JS_mv rfl<|QA (J9 rfl Xh)<|QA (QV rfl rfl rfl)<|JS_mv rfl ?_
     refine Qn (t:=41) rfl (fun hb41=>?_) (fun hb41=>?_)
     ·
      refine QL rfl rfl<|JS_mv rfl<|QL rfl rfl<|JS_mv rfl<|QL rfl rfl<|QA (Qu rfl rfl (by omega))<|QL rfl rfl<|QA (Kd (((ahead XS (Lib.trimPrefix s [45]))+1)) rfl rfl Xh (congrArg (fun z:Int=>some (Value.int .i64 z)) (by omega)) (by have:=dec_t hb41;omega))<|QL rfl rfl<|QI rfl (fun w F hF ⟨hT,_⟩=>zU hF (by rw [List.length_drop];omega)) (fun _=>QL rfl rfl<|QA (Yt rfl)<|QL rfl rfl<|JS_mv rfl ?_)
      refine Qn (t:=48) rfl (fun hb48=>?_) (fun hb48=>?_)
      ·
       refine QO rfl rfl rfl<|QO rfl rfl rfl<|QO rfl rfl rfl<|QO rfl rfl rfl<|QO rfl rfl rfl<|QL rfl rfl<|QA (Qi rfl rfl rfl)<|QL rfl rfl<|JS_mv rfl<|QO rfl rfl rfl<|QO rfl rfl rfl<|QO rfl rfl rfl<|QO rfl rfl rfl<|QO rfl rfl rfl<|QL rfl rfl<|QA (Qi rfl rfl rfl)<|QA (Qi rfl rfl rfl)<|QE ?_
       exact X0 ⟨rfl,rfl,(congrArg (fun b=>some (Value.bool b)) (by have h1:PC s=true:=(by simp [PC];simpa using hb41);simp [IN,h1];simp at hb48;exact .inl hb48)),trivial⟩ subl_r (fun _ h=>h.1)
      ·
       refine QL rfl rfl<|JS_mv rfl<|QL rfl rfl<|JS_mv rfl<|QL rfl rfl<|QA (Qu rfl rfl (by omega))<|QL rfl rfl<|QA (Kd (((ahead XS (Lib.trimPrefix s [45]))+1)) rfl rfl Xh (congrArg (fun z:Int=>some (Value.int .i64 z)) (by omega)) (by have:=dec_t hb41;omega))<|QL rfl rfl<|QA (K3 rfl rfl)<|QL rfl rfl<|QA (Qh rfl rfl rfl)<|QL rfl rfl<|JS_mv rfl ?_
       refine Qn (t:=55) rfl (fun hb55=>?_) (fun hb55=>?_)
       ·
        refine QO rfl rfl rfl<|QO rfl rfl rfl<|QO rfl rfl rfl<|QO rfl rfl rfl<|QO rfl rfl rfl<|QL rfl rfl<|QA (Qi rfl rfl rfl)<|QA (Qi rfl rfl rfl)<|QE ?_
        exact X0 ⟨rfl,rfl,(congrArg (fun b=>some (Value.bool b)) (by have h1:PC s=true:=(by simp [PC];simpa using hb41);simp [IN,h1];exact .inr (.inl (by simpa [Nu] using hb55)))),trivial⟩ subl_r (fun _ h=>h.1)
       ·
        refine QL rfl rfl<|JS_mv rfl<|QL rfl rfl<|JS_mv rfl<|QL rfl rfl<|QA (Qu rfl rfl (by omega))<|QL rfl rfl<|QA (Kd (((ahead XS (Lib.trimPrefix s [45]))+1)) rfl rfl Xh (congrArg (fun z:Int=>some (Value.int .i64 z)) (by omega)) (by have:=dec_t hb41;omega))<|QL rfl rfl<|QA (K3 rfl rfl)<|QL rfl rfl<|QA (Qh rfl rfl rfl)<|QA (Qi rfl rfl rfl)<|QE ?_
        exact X0 ⟨rfl,rfl,(congrArg (fun b=>some (Value.bool b)) (by have h1:PC s=true:=(by simp [PC];simpa using hb41);simp at hb48 hb55;simp [IN,h1,Nu,hb48,hb55])),trivial⟩ subl_r (fun _ h=>h.1)
     ·
      refine QO rfl rfl rfl<|QO rfl rfl rfl<|QO rfl rfl rfl<|QO rfl rfl rfl<|QO rfl rfl rfl<|QO rfl rfl rfl<|QO rfl rfl rfl<|JV rfl rfl<|JV rfl rfl<|JV rfl rfl<|JV rfl rfl<|JV rfl rfl<|QO rfl rfl rfl<|QO rfl rfl rfl<|JV rfl rfl<|JV rfl rfl<|JV rfl rfl<|JV rfl rfl<|JV rfl rfl<|QO rfl rfl rfl<|QA (Qh rfl rfl rfl)<|QE ?_
      exact X0 ⟨rfl,rfl,(congrArg (fun b=>some (Value.bool b)) (by have h1:PC s=false:=(by simp [PC];simpa using hb41);simp [IN,h1])),trivial⟩ subl_r (fun _ h=>h)
    ·
     simp only [List.cons_append,List.nil_append]
     refine QR rfl (fun hc=>?_) (fun hc=>?_)
     ·
      have hb2:IN s=true:=hc
      refine J_sr<|JS_as rfl<|JS_nt<|QT ?_
      exact QQ (()) rfl (.tmp rfl .nil) (congrArg (Value.int .i64) (by simp [Rz,hb1,hb2])) (fun F ⟨hT,_⟩=>trivial)
     ·
      have hb2:IN s=false:=hc
      refine QP<|QC<|QG ?_
      refine KZ [(3,_),(4,_)] [(72,.bool (Oi s))] ⟨rfl,rfl,trivial⟩ ?_ ?_
      ·
       refine QB<|JS_mv rfl<|QA (QV rfl rfl rfl)<|JS_mv rfl ?_
       refine Qn (t:=65) rfl (fun hb65=>?_) (fun hb65=>?_)
       ·
        refine QO rfl rfl rfl<|QO rfl rfl rfl<|QO rfl rfl rfl<|QO rfl rfl rfl<|QO rfl rfl rfl<|QO rfl rfl rfl<|QA (Qi rfl rfl rfl)<|QE ?_
        exact X0 ⟨rfl,rfl,(congrArg (fun b=>some (Value.bool b)) (by have:=dec_t hb65;simp [Oi];left;omega)),trivial⟩ subl_r (fun _ h=>h)
       ·
        refine QL rfl rfl<|JS_mv rfl<|QL rfl rfl<|QA (J9 rfl Xh)<|QL rfl rfl<|JS_mv rfl<|QL rfl rfl<|QA (J6 rfl rfl (by omega))<|QL rfl rfl<|QA (J6 rfl rfl (by omega))<|QL rfl rfl<|QA (QV rfl rfl rfl)<|QA (Qh rfl rfl rfl)<|QE ?_
        exact X0 ⟨rfl,rfl,(congrArg (fun b=>some (Value.bool b)) (by rw [Bool.eq_iff_iff];have:=dec_f hb65;simp [Oi,Nu];omega)),trivial⟩ subl_r (fun _ h=>h)
      ·
       simp only [List.cons_append,List.nil_append]
       refine QR rfl (fun hc=>?_) (fun hc=>?_)
       ·
        have hb3:Oi s=true:=hc
        refine J_sr<|JS_as rfl<|JS_nt<|QT ?_
        exact QQ (()) rfl (.tmp rfl .nil) (congrArg (Value.int .i64) (by simp [Rz,hb1,hb2,hb3])) (fun F ⟨hT,_⟩=>trivial)
       ·
        have hb3:Oi s=false:=hc
        have hk6:ahead XS (Lib.trimPrefix s [45])≤600:=by simp [Oi] at hb3;exact hb3.1
        refine QP<|QC<|QG<|J_sr<|JS_mv rfl<|JS_mv rfl<|QA (J9 rfl Xh)<|QA (QV rfl rfl rfl)<|QE<|QC ?_
        refine QR rfl (fun hc=>?_) (fun hc=>?_)
        ·
         have hk:ahead XS (Lib.trimPrefix s [45])<(Lib.trimPrefix s [45]).length:=by have:=dec_t hc;omega
         obtain ⟨da,dd⟩:=gJ hb1 hb2 hk
         refine J_sr<|JS_mv rfl<|QI rfl (fun w F hF ⟨hT,_⟩=>zu hF (s:=(Lib.trimPrefix s [45])) (by omega) (by rw [ZQ da];exact da) (fun _=>by rw [show(List.drop (ahead XS (Lib.trimPrefix s [45])+1) (Lib.trimPrefix s [45]))=Nu s from rfl,ZQ dd];exact dd)) (fun c79=>JS_mv rfl<|QA (QM rfl rfl)<|QA (QM rfl rfl)<|Qb Z6 (fun b5=>Qb Z6 (fun b6=>QN (vs:=[_,_]) rfl rfl rfl JH rfl (.there .here) (.here (.here .nil)) ⟨rfl,rfl,trivial⟩<|QN (vs:=[_,_]) rfl rfl rfl JH rfl .here (.here (.here .nil)) ⟨rfl,rfl,trivial⟩<|JS_nt<|QG<|Xz _ (fun w F hF h=>And.intro h.2.1.p (And.intro (h.2.2 hk).p (And.intro h.2.1.1.2.1 (h.2.2 hk).1.2.1))) (fun pp=>?_))))
         obtain ⟨pa,pd,na,nd⟩:=pp
         rw [XI da] at pa
         have pd2:=pd
         rw [show Zv ((Lib.trimPrefix s [45]).drop (ahead XS (Lib.trimPrefix s [45])+1))=Q8 (Nu s) from XI dd] at pd2
         have la:=pa.len
         have ld:=pd2.len
         have sa:=zQ da
         have sd:=zQ dd
         have h600:(Nu s).length≤600:=by simp [Oi] at hb3;exact hb3.2
         rw [List.length_take] at sa
         refine QB<|QA (QH rfl Z1 Qz)<|QA (Qj rfl Qz (.there .here) (.skip (.here .nil)))<|QA (QH rfl Z1 Qz)<|QA (Qj rfl Qz .here (.skip (.here .nil))) ?_
         refine QI rfl (fun w F hF ⟨⟨hT,_⟩,h79⟩=>O9 hF (a:=c79.1.l) (b:=c79.2.l) (ra:=c79.1.r) (rb:=c79.2.r) h79.1.1 ((h79.2 hk).1) (pa.dg) (pd.dg) (pa.nz) (pd.nz) (by omega) (by omega)) (fun c86=>?_);rcases c86 with ⟨v86,l86⟩;dsimp only
         refine JK _ (fun w F hF ⟨⟨⟨hT,_⟩,h79⟩,⟨h86,h86p⟩⟩=>And.intro h86.2 h86p) (fun p86=>JS_as rfl<|QE<|QC ?_)
         refine KZ [] [(95,.bool (OS s))] trivial ?_ ?_
         ·
          have hgc:dv B9 l86=(Nat.gcd (Q8 ((Lib.trimPrefix s [45]).take (ahead XS (Lib.trimPrefix s [45])))) (Q8 (Nu s)):Nat):=by
           rw [p86.2.2.2,jm pa pd2];rfl
          have hone:=L2 p86.2.1 p86.2.2.1
          have hsl:PC s=true:=by simp [PC];exact hk
          refine QB<|JS_mv rfl<|QA (Ql rfl Qf)<|QA (QV rfl rfl rfl)<|JS_mv rfl ?_
          refine Qn (t:=90) rfl (fun hb90=>?_) (fun hb90=>?_)
          ·
           refine QO rfl rfl rfl<|QO rfl rfl rfl<|QO rfl rfl rfl<|QO rfl rfl rfl<|QA (Qi rfl rfl rfl)<|QE ?_
           exact X0 ⟨(congrArg (fun b=>some (Value.bool b)) (by have h1:¬ l86.length=1:=(by simp at hb90;omega);rw [Bool.eq_iff_iff];simp [OS,hsl];intro g;exact h1 (hone.2 (by rw [hgc,g];rfl)).1)),trivial⟩ subl_r (fun _ h=>h)
          ·
           have hn1:v86.n=1:=by simp at hb90;omega
           refine QL rfl rfl<|JS_mv rfl<|QL rfl rfl<|QA (Ja (n:=v86.n) (0) (fun F ⟨⟨⟨hT,_⟩,h79⟩,⟨h86,h86p⟩⟩=>(h86).1) rfl (congrArg (fun z:Int=>some (Value.int .i64 z)) (by omega)) Qf Qp (by omega))<|QL rfl rfl<|QA (Jk (n:=v86.n) ((0)*1) (fun F ⟨⟨⟨hT,_⟩,h79⟩,⟨h86,h86p⟩⟩=>(h86).1) (by omega) rfl Qp (JO (o:=l86) (by omega)))<|QL rfl rfl<|QA (QV rfl rfl rfl)<|QA (Qh rfl rfl rfl)<|QE ?_
           exact X0 ⟨(congrArg (fun b=>some (Value.bool b)) (by have h1:l86.length=1:=(by omega);rw [Bool.eq_iff_iff];simp [OS,hsl];exact not_congr ⟨fun e=>by have h2:=hone.1 ⟨h1,e⟩;rw [hgc] at h2;omega,fun e=>(hone.2 (by rw [hgc,e];rfl)).2⟩)),trivial⟩ subl_r (fun _ h=>h)
         ·
          simp only [List.cons_append,List.nil_append]
          refine QR rfl (fun hc=>?_) (fun hc=>?_)
          ·
           have hg4:OS s=true:=hc
           refine J_sr<|JS_as rfl<|JS_nt<|QT ?_
           exact QQ (()) rfl (.tmp rfl .nil) (congrArg (Value.int .i64) (by simp [Rz,hb1,hb2,hb3,hg4])) (fun F ⟨⟨⟨hT,_⟩,h79⟩,⟨h86,h86p⟩⟩=>trivial)
          ·
           have hg4:OS s=false:=hc
           refine QP<|QC<|J_sr<|JS_as rfl<|JS_nt<|QT ?_
           exact QQ (()) rfl (.tmp rfl .nil) (congrArg (Value.int .i64) (by simp [Rz,hb1,hb2,hb3,hg4])) (fun F ⟨⟨⟨hT,_⟩,h79⟩,⟨h86,h86p⟩⟩=>trivial)
        ·
         have hg4:OS s=false:=by have:=dec_f hc;simp [OS,PC];intro g;omega
         refine QP<|QC<|J_sr<|JS_as rfl<|JS_nt<|QT ?_
         exact QQ (()) rfl (.tmp rfl .nil) (congrArg (Value.int .i64) (by simp [Rz,hb1,hb2,hb3,hg4])) (fun F ⟨hT,_⟩=>trivial)
end
section
open Go.RowKit Ig
theorem jK {w:World} {F:Gs} {q:Option Addr} {n c:Nat} {l:List (List UInt8)} (hF:Fits F w) (hR:Q9 F q n 1 (l.map tx)) (hl:l.length=n∧∀ s∈l,s.length≤1000000) (hn:n≤1000000):QZ Tryz.prog 206 [.slice q n c] w F (.int .i64 (Qm (l.map BJ))):=by
 have hln:=hl.1
 refine QS.intro (G:=fun F=>Q9 F q n 1 (l.map tx)) Tryz.func206 rfl (by rfl) rfl rfl hF (fun F' hF'=>hR.le hF')<|J_sr<|JS_as rfl<|JS_nt<|QG<|J_sr<|JS_as rfl<|JS_nt<|Qa<|Z3 (ι:=Yj l BJ) [(0,_)] (fun i=>[(3,.int .i64 ((i.i:Nat):Int))]) (fun i=>l.length - i.i) (Yj.start _ _) ⟨rfl,trivial⟩ ⟨rfl,trivial⟩ (fun i=>?_)
 simp only [List.cons_append,List.nil_append]
 refine QG<|J_sr<|JS_mv rfl<|JS_mv rfl<|QA (Ql rfl SD)<|QA (QV rfl rfl rfl)<|QE<|QC ?_
 refine QR rfl (fun hc=>?_) (fun hc=>?_)
 ·
  have hi:i.i<l.length:=by have:=dec_t hc;omega
  have hel:=hl.2 _ (Jc hi)
  refine QP<|QC<|QG<|Qa<|J_sr<|JS_mv rfl<|JS_mv rfl<|QA (Ja (n:=n) (i.i) (fun F hR=>hR) rfl rfl SD JR (by omega))<|QA (Jk (n:=n) ((i.i)*1) (fun F hR=>hR) (by omega) rfl JR (Mr (f:=tx) (l:=l) (by omega)))<|QI rfl (fun w F hF hR=>y3 hF (by omega)) (fun _=>QA (QV rfl rfl rfl)<|QE<|QC ?_)
  refine QR rfl (fun hc=>?_) (fun hc=>?_)
  ·
   refine J_sr<|JS_as rfl<|JS_nt<|QT ?_
   repeat (first | refine JJ ?_ | refine JA ?_)
   exact QQ (()) rfl (.tmp rfl .nil) (congrArg (Value.int .i64) (by have h:=i.hit hi (by simpa using hc);rw [h];have h2:BJ (el l i.i)≠0:=(by simpa using hc);unfold BJ at h2 ⊢;split at h2<;>simp_all)) (fun F ⟨hR,_⟩=>trivial)
  ·
   refine QP<|Qk<|QC<|QB<|JS_mv rfl<|QA (Qu rfl rfl (by omega))<|JS_as rfl<|QE ?_
   exact Qo (i.next hi (by simpa using hc)) (by show l.length - (i.i+1)<l.length - i.i;omega) ⟨rfl,rfl,trivial⟩ subl_r (fun F h=>h.1)
 ·
  have hi:l.length≤i.i:=by have:=dec_f hc;omega
  refine Q5 ?_
  repeat (first | refine Qd ?_ | refine QW (by rfl) ?_)
  refine Qe<|QC<|J_sr<|JS_as rfl<|JS_nt<|QT ?_
  exact QQ (()) rfl (.tmp rfl .nil) (congrArg (Value.int .i64) (i.stop hi)) (fun F hR=>trivial)
end
section
open Go.RowKit Ig
theorem CV {w:World} {F:Gs} {lo hi:List UInt8} (hF:Fits F w) (hl:lo.length≤1000000∧hi.length≤1000000):QZ Tryz.prog 125 [.agg #[tx lo,tx hi]] w F (.int .i64 (Qm [BJ lo,BJ hi])):=by
 refine QS.intro (G:=fun F=>True) Tryz.func125 rfl (by rfl) rfl rfl hF (fun F' hF'=>trivial)<|J_sr<|Qw rfl (vs:=[_,_]) rfl (fun b1=>JS_as rfl<|JS_nt<|J_sr<|QA (QH rfl Yr JR)<|QA (Qj rfl JR .here (.here .nil))<|QA (QH rfl Yz JR)<|QA (Qj rfl JR .here (.skip (.here .nil)))<|QU rfl (Q6 SD) JR vX rfl rfl (fun b7=>QI rfl (fun w F hF ⟨hT,hs7⟩=>jK hF (n:=2) (l:=[lo,hi]) (Q9.of (n:=2) (sz:=1) hs7 rfl) (⟨rfl,fun s hs=>by simp at hs;rcases hs with rfl | rfl;exact hl.1;exact hl.2⟩) (by omega)) (fun _=>JS_as rfl<|JS_nt<|QT ?_)))
 exact QQ (()) rfl (.tmp rfl .nil) (rfl) (fun F ⟨⟨hT,hs7⟩,_⟩=>trivial)
end
end Go.Proofs.YtknegjaeoffnbaaGreatDoor
namespace Ig
theorem Xjm {l m:List Tm} (h:EO l m):XC l=XC m:=Pw (YY l) (YY m) fun k=>by rw [WK,WK,h]
theorem eqv_zero (t:List Int) (p:List Tm):EO ((0,t)::p) p:=fun k=>by simp [Jl,Rat.zero_add]
end Ig
namespace Go.Proofs.YtknegjaeoffnbaaGreatDoor
section
open Go.RowKit Ig
section
variable [Dr] [df:Df] {P:Program} {N:Nat} {m:Sl} {w0:World} {F0:Gs} {bs:List (Nat×Obj)} {G:Gs→Prop}
theorem Src.Xk9 {q:Option Addr} {sz k c:Nat} {news:List Value} (h0:q=none→k=0) (hr:∀ F,G F→Q9 F q k sz news) (hl:news.length=k*sz):Src ⟨w0,F0,bs,G⟩ sz (.slice q k c) k news:=by
 cases q with
 |some a=>exact .gk hr hl
 |none =>
  have h:=h0 rfl
  subst h
  rw [Nat.zero_mul,List.length_eq_zero_iff] at hl
  subst hl
  exact .nil
theorem Q9.Xjn {F:Gs} {q:Option Addr} {n sz:Nat} {cs:List Value} (h:Q9 F q n sz cs) (e:q=none):n=0:=by
 rcases Nat.eq_zero_or_pos n with g | g
 ·exact g
 ·obtain ⟨_,_,_,_,e2,_⟩:=h.2 g;rw [e] at e2;cases e2
end
end
section
open Go.RowKit Go.ChangeShapes Go.WideShapes Ig
section
variable {H:Type} {enc:TypeId×Value→H} {w:World}
theorem Xke (n:Nat) (cs:List Value) (x:DataW H×List MemPlace) (h:DataW.trod enc Tryz.prog w 0 (fun _=>true) true n 3 cs=some x):∃ y:Int,cs=[Qx y]∧True:=by
 obtain ⟨z,rfl,_⟩:=DataW.trod_int gO h
 exact⟨z,rfl,trivial⟩
theorem Xkf (l:List Int):(l.flatMap fun y=>[Qx y])=l.map Qx:=by
 induction l with
 |nil=>rfl
 |cons a l ih=>rw [List.flatMap_cons,ih];rfl
set_option maxRecDepth 100000 in
theorem Xju (n:Nat) (cs:List Value) (x:DataW H×List MemPlace) (h:DataW.trod enc Tryz.prog w 0 (fun _=>true) true n 122 cs=some x):∃ y:GA,cs=WQ y∧JP (BP w) y.r y.k:=by
 obtain ⟨y0,y1,m,_,hl,h0,h1⟩:=trod_struct2 Tryz.underlying122 h
 have c2:Tryz.prog.cellsOf 122=2:=by kernel_rfl
 have c1:Tryz.prog.cellsOf 22=1:=by kernel_rfl
 have c3:Tryz.prog.cellsOf 120=1:=by kernel_rfl
 rw [c2] at hl
 match cs,hl with
 |[a,b],_ =>
  dsimp only at h0 h1
  rw [c1] at h0
  rw [c3] at h1
  obtain ⟨f,rfl⟩:=I5 qz (v:=a) h0
  obtain ⟨q,n,cap,l,e,hR,hn,_,_,hc⟩:=Xax (cs:=[b]) (f:=fun y=>[Qx y]) (Q:=fun _=>True) Tryz.underlying120 (show Tryz.prog.cellsOf 3=1 by kernel_rfl) (by decide) (fun _=>rfl) Xke h1
  obtain ⟨rfl⟩:=(List.cons.injEq _ _ _ _ ▸ e:_∧_).1
  rw [Xkf] at hR
  exact⟨⟨f,⟨q,n,cap⟩,l⟩,rfl,hR,hn,hc⟩
end
end
section
open Go.RowKit Go.ChangeShapes Go.WideShapes Ig
section
variable {H:Type} {enc:TypeId×Value→H} {w:World}
set_option maxRecDepth 100000 in
theorem Xiy {m:Nat} {v:Value} {x:DataW H×List MemPlace} (h:DataW.trod enc Tryz.prog w 0 (fun _=>true) true m 52 [v]=some x) :
  ∃ (q:Option Addr) (n cap:Nat) (l:List GA),v = .slice q n cap∧Q9 (BP w) q n 2 (l.flatMap WQ)∧Yc (BP w) l∧l.length=n∧n≤9223372036854775807∧n≤cap:=by
 obtain ⟨q,n,cap,l,h1,h2,h3,h4,h5,h6⟩:=Xax (cs:=[v]) (f:=WQ) (Q:=fun y=>JP (BP w) y.r y.k) Tryz.underlying52 (show Tryz.prog.cellsOf 122=2 by kernel_rfl) (by decide) (fun _=>rfl) Xju h
 exact⟨q,n,cap,l,(List.cons.injEq _ _ _ _ ▸ h1:_∧_).1,h2,h5,h3,h4,h6⟩
set_option maxRecDepth 100000 in
theorem Xko {b:Nat} {v:Value} {d:DataW H} {p:List MemPlace} (hv:Value.okWide Tryz.prog w .any b 94 v) (h:DataW.Trod enc Tryz.prog w 0 (fun _=>true) true 94 v d p) :
  ∃ (q q2:Option Addr) (n cap n2 cap2:Nat) (l l2:List GA) (c:List UInt8),v = .agg #[.slice q n cap,.slice q2 n2 cap2,tx c]∧(Q9 (BP w) q n 2 (l.flatMap WQ)∧Yc (BP w) l∧l.length=n∧n≤9223372036854775807)∧Q9 (BP w) q2 n2 2 (l2.flatMap WQ)∧Yc (BP w) l2∧l2.length=n2∧n2≤9223372036854775807:=by
 obtain ⟨v0,v1,v2,y0,y1,y2,n,rfl,_,_,h0,h1,h2⟩:=Joins.open_agg3 Tryz.underlying94 (by kernel_rfl) (by kernel_rfl) hv h
 obtain ⟨q,n,cap,l,rfl,a1,a2,a3,a4,_⟩:=Xiy h0
 obtain ⟨q2,n2,cap2,l2,rfl,b1,b2,b3,b4,_⟩:=Xiy h1
 obtain ⟨c,rfl⟩:=I5 qz h2
 exact⟨q,q2,n,cap,n2,cap2,l,l2,c,rfl,⟨a1,a2,a3,a4⟩,b1,b2,b3,b4⟩
end
end
section
open Go.RowKit Ig
theorem Xkg {w:World} {F:Gs} {a b:Ku} {v:Int} (hF:Fits F w) (hGl:JB F) (hA:YD F [a,b]) (ht:∀ e∈[a,b],VN e) :
  QS Tryz.prog 42 [a.1.v,b.1.v,.int .i64 v] w F (fun(c:Ku)=>.tuple #[c.1.v,.int .i64 (gC [a,b] v (XC (JG (XB a.2)++JG (XB b.2))))]) (fun c F=>VK F c.1 c.2 (gB [a,b] v (XC (JG (XB a.2)++JG (XB b.2))))):=by
 have ha:a∈[a,b]:=by simp
 have hb:b∈[a,b]:=by simp
 dsimp only [Sr.v]
 refine QS.intro (G:=fun F=>JB F∧YD F [a,b]) Tryz.func42 rfl (by rfl) rfl rfl hF (fun F' hF'=>⟨hGl.le hF',hA.le hF'⟩)<|J_sr<|JS_as rfl<|JS_as rfl<|JS_nt<|QG<|J_sr<|JS_mv rfl<|JS_mv rfl<|JS_mv rfl<|QU rfl (Q6 Dc) ME j2 rfl rfl (fun b12=>QI rfl (fun w F hF ⟨⟨hGl,hA⟩,hs12⟩=>Hi hF hGl (Q9.of (n:=2) (sz:=1) (cs:=[a,b].map fun e=>e.1.v) hs12 rfl) (hA) (rfl) (by decide) (ht)) (fun _=>JS_as rfl<|JS_nt<|J_sr<|JS_mv rfl<|QA (QV rfl rfl rfl)<|QE<|QC ?_))
 refine QR rfl (fun hc=>?_) (fun hc=>?_)
 ·
  have hc0:=bne_iff_ne.1 hc
  refine J_sr<|JS_mv rfl<|JS_as rfl<|JS_as rfl<|JS_nt<|QT ?_
  exact JY ((⟨none,0,0⟩,[])) rfl (.tmp rfl (.tmp rfl .nil)) (by unfold gC;rw [if_neg hc0]) (fun F ⟨⟨⟨hGl,hA⟩,hs12⟩,_⟩=>by unfold gB;rw [if_neg hc0];exact VK.nil F)
 ·
  have hc0:=bne_eq_false_iff_eq.1 hc
  obtain ⟨hv,hok⟩:=Eg hc0
  have oa:=hok a ha
  have ob:=hok b hb
  have sa:=oa.Zb
  have sb:=ob.Zb
  have hpa:∀ t∈JG (XB a.2),PW t.2:=oa.pw hv.2
  have hpb:∀ t∈JG (XB b.2),PW t.2:=ob.pw hv.2
  have la:(JG (XB a.2)).length≤64:=by unfold JG;rw [List.length_map];exact oa.len
  have lb:(JG (XB b.2)).length≤64:=by unfold JG;rw [List.length_map];exact ob.len
  have hsz:Zb (JG (XB a.2)++JG (XB b.2))≤400000:=by rw [Xb];omega
  have hpn:=Mi (l:=JG (XB a.2)++JG (XB b.2)) fun t ht=>by
   rcases List.mem_append.1 ht with h | h
   ·exact hpa t h
   ·exact hpb t h
  have hln:=Vr (JG (XB a.2)++JG (XB b.2))
  rw [List.length_append] at hln
  refine QP<|QC<|J_sr<|JS_mv rfl<|QI rfl (fun w F hF ⟨⟨⟨hGl,hA⟩,hs12⟩,_⟩=>VT hF hGl (a:=a) (hA a ha).1 (hA a ha).2 (ht a ha) oa hv) (fun c18=>JK _ (fun w F hF h=>And.intro h.2.2.2.1 h.2.len) (fun h18p=>JS_mv rfl<|QI rfl (fun w F hF ⟨⟨⟨⟨hGl,hA⟩,hs12⟩,_⟩,h18⟩=>VT hF hGl (a:=b) (hA b hb).1 (hA b hb).2 (ht b hb) ob hv) (fun c20=>JK _ (fun w F hF h=>And.intro h.2.2.2.1 h.2.len) (fun h20p=>?_))))
  obtain ⟨e18,l18⟩:=h18p
  obtain ⟨e20,l20⟩:=h20p
  refine QI rfl (fun w F hF ⟨⟨⟨⟨⟨hGl,hA⟩,hs12⟩,_⟩,h18⟩,h20⟩=>xR hF hGl (p:=c18) (q:=c20) (by rw [e18];exact h18) (by rw [e20];exact h20) ⟨XD e18 hpa,XD e20 hpb⟩ (by omega) (by rw [e18,e20];omega)) (fun c21=>JK _ (fun w F hF h=>And.intro h.2.2.2.1 h.2.len) (fun h21p=>?_))
  obtain ⟨e21,l21⟩:=h21p
  rw [e18,e20] at e21 l21
  refine QI rfl (fun w F hF ⟨⟨⟨⟨⟨⟨hGl,hA⟩,hs12⟩,_⟩,h18⟩,h20⟩,h21⟩=>Wo hF (q:=c21.1.q) (n:=c21.1.n) (cap:=c21.1.cap) (ts:=c21.2) (by rw [e21];rw [e18,e20] at h21;exact h21) hGl (XD e21 hpn) (fun t htm=>Nat.le_trans (Bt (XD e21 (fun x hx=>hx) t htm)) (by omega)) (by omega)) (fun c22=>?_)
  rw [e21]
  refine QA (QM rfl rfl)<|QA (QM rfl rfl)<|JS_as rfl<|JS_as rfl<|JS_nt<|QT ?_
  exact JY (c22) rfl (.tmp rfl (.tmp rfl .nil)) (by unfold gC;rw [if_pos hc0];rfl) (fun F ⟨⟨⟨⟨⟨⟨⟨hGl,hA⟩,hs12⟩,_⟩,h18⟩,h20⟩,h21⟩,h22⟩=>by unfold gB;rw [if_pos hc0];exact h22)
end
section
open Go.RowKit Ig
theorem Xi2 {w:World} {F:Gs} {r:Sr} {l:List Int} (hF:Fits F w) (hR:JP F r l) (hp:PW l):QZ Tryz.prog 195 [r.v] w F (.int .i64 l.sum):=by
 obtain ⟨q,n,c⟩:=r
 have hln:=hR.2.1
 dsimp only [Sr.v] at hln ⊢
 have hl1:=hp.2
 refine QS.intro (G:=fun F=>JP F ⟨q,n,c⟩ l) Tryz.func195 rfl (by rfl) rfl rfl hF (fun F' hF'=>hR.le hF')<|J_sr<|JS_as rfl<|JS_nt<|J_sr<|JS_as rfl<|JS_nt<|QG<|J_sr<|JS_as rfl<|JS_nt<|Qa<|Z3 (ι:={i:Nat // i≤l.length}) [(0,_)] (fun i=>[(3,.int .i64 ((l.take i.1).sum)),(4,.int .i64 ((i.1:Nat):Int))]) (fun i=>l.length - i.1) (⟨0,Nat.zero_le _⟩) ⟨rfl,trivial⟩ ⟨rfl,rfl,trivial⟩ (fun i=>?_)
 simp only [List.cons_append,List.nil_append]
 have hi:=i.2
 have hs:=hp.sum i.1 hi
 refine QG<|J_sr<|JS_mv rfl<|JS_mv rfl<|QA (Ql rfl Qf)<|QA (QV rfl rfl rfl)<|QE<|QC ?_
 refine QR rfl (fun hc=>?_) (fun hc=>?_)
 ·
  have hlt:i.1<l.length:=by have:=dec_t hc;omega
  have he:=hp.el hlt
  refine QP<|QC<|QG<|Qa<|QB<|JS_mv rfl<|JS_mv rfl<|JS_mv rfl<|QA (Ja (n:=n) (i.1) (fun F hR=>(hR).1) rfl rfl Qf Qp (by omega))<|QA (Jk (n:=n) ((i.1)*1) (fun F hR=>(hR).1) (by omega) rfl Qp (JO (o:=l) (by omega)))<|QA (Qu rfl rfl (by omega))<|JS_as rfl<|QE<|Qk<|QC<|QB<|JS_mv rfl<|QA (Qu rfl rfl (by omega))<|JS_as rfl<|QE ?_
  exact Qo (⟨i.1+1,hlt⟩) (by show l.length - (i.1+1)<l.length - i.1;omega) ⟨rfl,(congrArg (fun z:Int=>some (Value.int .i64 z)) (MO hlt).symm),rfl,trivial⟩ subl_r (fun F h=>h)
 ·
  have hge:i.1=l.length:=by have:=dec_f hc;omega
  refine Q5 ?_
  repeat (first | refine Qd ?_ | refine QW (by rfl) ?_)
  refine Qe<|QC<|J_sr<|JS_mv rfl<|JS_as rfl<|JS_nt<|QT ?_
  exact QQ (()) rfl (.tmp rfl .nil) (congrArg (Value.int .i64) (by rw [List.take_of_length_le (by omega)])) (fun F hR=>trivial)
theorem Xix {w:World} {F:Gs} {q q2:Option Addr} {n c n2 c2:Nat} {a b:List Int} (hF:Fits F w) (hA:JP F ⟨q,n,c⟩ a) (hB:JP F ⟨q2,n2,c2⟩ b) (pa:PW a) (pb:PW b) (hl:a.length=b.length):QZ Tryz.prog 157 [.slice q n c,.slice q2 n2 c2] w F (.bool (before a b)):=by
 have na:=hA.2.1
 have nb:=hB.2.1
 dsimp only at na nb
 have la:=pa.2
 refine QS.intro (G:=fun F=>JP F ⟨q,n,c⟩ a∧JP F ⟨q2,n2,c2⟩ b) Tryz.func157 rfl (by rfl) rfl rfl hF (fun F' hF'=>⟨hA.le hF',hB.le hF'⟩)<|J_sr<|JS_as rfl<|JS_nt<|QG<|J_sr<|JS_mv rfl<|QI rfl (fun w F hF ⟨hA,hB⟩=>Xi2 hF (r:=⟨q,n,c⟩) hA (pa)) (fun _=>JS_mv rfl<|QI rfl (fun w F hF ⟨⟨hA,hB⟩,_⟩=>Xi2 hF (r:=⟨q2,n2,c2⟩) hB (pb)) (fun _=>QA (QV rfl rfl rfl)<|QE<|QC ?_))
 refine QR rfl (fun hc=>?_) (fun hc=>?_)
 ·
  have hne:=bne_iff_ne.1 hc
  refine J_sr<|JS_mv rfl<|QI rfl (fun w F hF ⟨⟨⟨hA,hB⟩,_⟩,_⟩=>Xi2 hF (r:=⟨q,n,c⟩) hA (pa)) (fun _=>JS_mv rfl<|QI rfl (fun w F hF ⟨⟨⟨⟨hA,hB⟩,_⟩,_⟩,_⟩=>Xi2 hF (r:=⟨q2,n2,c2⟩) hB (pb)) (fun _=>QA (QV rfl rfl rfl)<|JS_as rfl<|JS_nt<|QT ?_))
  exact QQ (()) rfl (.tmp rfl .nil) (congrArg Value.bool (by unfold before;rw [decide_eq_false hne,Bool.false_and,Bool.or_false])) (fun F ⟨⟨⟨⟨⟨hA,hB⟩,_⟩,_⟩,_⟩,_⟩=>trivial)
 ·
  have hne:=bne_eq_false_iff_eq.1 hc
  refine QP<|QC<|QG<|J_sr<|JS_as rfl<|JS_nt<|Qa<|Z3 (ι:=vV a b) [(0,_),(1,_)] (fun i=>[(5,.int .i64 ((i.i:Nat):Int))]) (fun i=>a.length - i.i) (⟨0,Nat.zero_le _,rfl⟩) ⟨rfl,rfl,trivial⟩ ⟨rfl,trivial⟩ (fun i=>?_)
  simp only [List.cons_append,List.nil_append]
  have hi:=i.le
  refine QG<|J_sr<|JS_mv rfl<|JS_mv rfl<|QA (Ql rfl Qf)<|QA (QV rfl rfl rfl)<|QE<|QC ?_
  refine QR rfl (fun hc=>?_) (fun hc=>?_)
  ·
   have hlt:i.i<a.length:=by have:=dec_t hc;omega
   refine QP<|QC<|QG<|Qa<|QG<|JN subl_r mixed (by kernel_rfl)<|QK (QD rfl)<|QK (QD rfl)<|QK (Ja (n:=n) (i.i) (fun F ⟨⟨⟨hA,hB⟩,_⟩,_⟩=>(hA).1) rfl rfl Qf Qp (by omega))<|QK (Jk (n:=n) ((i.i)*1) (fun F ⟨⟨⟨hA,hB⟩,_⟩,_⟩=>(hA).1) (by omega) rfl Qp (JO (o:=a) (by omega)))<|QK (QD rfl)<|QK (QD rfl)<|QK (Ja (n:=n2) (i.i) (fun F ⟨⟨⟨hA,hB⟩,_⟩,_⟩=>(hB).1) rfl rfl Qf Qp (by omega))<|QK (Jk (n:=n2) ((i.i)*1) (fun F ⟨⟨⟨hA,hB⟩,_⟩,_⟩=>(hB).1) (by omega) rfl Qp (JO (o:=b) (by omega)))<|QK (QV rfl rfl rfl)<|Q4<|QC ?_
   refine QR rfl (fun hc=>?_) (fun hc=>?_)
   ·
    have he:=bne_iff_ne.1 hc
    refine QG<|JN subl_r mixed (by kernel_rfl)<|QK (QD rfl)<|QK (QD rfl)<|QK (Ja (n:=n) (i.i) (fun F ⟨⟨⟨hA,hB⟩,_⟩,_⟩=>(hA).1) rfl rfl Qf Qp (by omega))<|QK (Jk (n:=n) ((i.i)*1) (fun F ⟨⟨⟨hA,hB⟩,_⟩,_⟩=>(hA).1) (by omega) rfl Qp (JO (o:=a) (by omega)))<|QK (QD rfl)<|QK (QD rfl)<|QK (Ja (n:=n2) (i.i) (fun F ⟨⟨⟨hA,hB⟩,_⟩,_⟩=>(hB).1) rfl rfl Qf Qp (by omega))<|QK (Jk (n:=n2) ((i.i)*1) (fun F ⟨⟨⟨hA,hB⟩,_⟩,_⟩=>(hB).1) (by omega) rfl Qp (JO (o:=b) (by omega)))<|QK (QV rfl rfl rfl)<|QK (QF rfl)<|Q4<|QC<|QT ?_
    repeat (first | refine JJ ?_ | refine JA ?_)
    exact QQ (()) rfl (.tmp rfl .nil) (congrArg Value.bool (by unfold before;rw [i.step hlt (by omega),decide_eq_false he,hne];simp)) (fun F ⟨⟨⟨hA,hB⟩,_⟩,_⟩=>trivial)
   ·
    have he:=bne_eq_false_iff_eq.1 hc
    refine QP<|Qk<|QC<|QB<|JS_mv rfl<|QA (Qu rfl rfl (by omega))<|JS_as rfl<|QE ?_
    exact Qo (⟨i.i+1,hlt,by rw [i.step hlt (by omega),he];simp⟩) (by show a.length - (i.i+1)<a.length - i.i;omega) ⟨rfl,rfl,rfl,trivial⟩ subl_r (fun F h=>h)
  ·
   have hge:i.i=a.length:=by have:=dec_f hc;omega
   refine Q5 ?_
   repeat (first | refine Qd ?_ | refine QW (by rfl) ?_)
   refine Qe<|QC<|J_sr<|JS_as rfl<|JS_nt<|QT ?_
   exact QQ (()) rfl (.tmp rfl .nil) (congrArg Value.bool (by unfold before;rw [i.h,hge,List.drop_of_length_le (Nat.le_refl _),hne];simp [Zi])) (fun F ⟨⟨⟨hA,hB⟩,_⟩,_⟩=>trivial)
theorem Xj6 {w:World} {F:Gs} {v:Int} (hF:Fits F w):QZ Tryz.prog 60 [.int .i64 v] w F (.int .i64 (Zg v)):=by
 refine QS.intro (G:=fun F=>True) Tryz.func60 rfl (by rfl) rfl rfl hF (fun F' hF'=>trivial)<|J_sr<|JS_as rfl<|JS_nt<|QG<|J_sr<|JS_mv rfl<|QA (QV rfl rfl rfl)<|JS_mv rfl ?_
 refine Qn (t:=5) rfl (fun hb5=>?_) (fun hb5=>?_)
 ·
  refine QO rfl rfl rfl<|QO rfl rfl rfl<|QA (Qi rfl rfl rfl)<|JS_nt<|WT rfl<|J_sr<|JS_as rfl<|JS_nt<|QT ?_
  exact QQ (()) rfl (.tmp rfl .nil) (congrArg (Value.int .i64) (by unfold Zg;first | (rw [if_pos (Or.inl hb5)]) | (rw [if_pos (Or.inr h8)]) | (rw [if_neg (fun h=>h.elim (fun g=>by rw [g] at hb5;cases hb5) (fun g=>by rw [g] at h8;cases h8))]))) (fun F _=>trivial)
 ·
  refine QL rfl rfl<|JS_mv rfl<|QL rfl rfl<|QA (QV rfl rfl rfl)<|QA (Qh rfl rfl rfl)<|QE<|QC ?_
  refine QR rfl (fun hc=>?_) (fun hc=>?_)
  ·
   have h8:=hc
   refine J_sr<|JS_as rfl<|JS_nt<|QT ?_
   exact QQ (()) rfl (.tmp rfl .nil) (congrArg (Value.int .i64) (by unfold Zg;first | (rw [if_pos (Or.inl hb5)]) | (rw [if_pos (Or.inr h8)]) | (rw [if_neg (fun h=>h.elim (fun g=>by rw [g] at hb5;cases hb5) (fun g=>by rw [g] at h8;cases h8))]))) (fun F _=>trivial)
  ·
   have h8:=hc
   refine QP<|QC<|J_sr<|JS_as rfl<|JS_nt<|QT ?_
   exact QQ (()) rfl (.tmp rfl .nil) (congrArg (Value.int .i64) (by unfold Zg;first | (rw [if_pos (Or.inl hb5)]) | (rw [if_pos (Or.inr h8)]) | (rw [if_neg (fun h=>h.elim (fun g=>by rw [g] at hb5;cases hb5) (fun g=>by rw [g] at h8;cases h8))]))) (fun F _=>trivial)
end
section
open Go.RowKit Ig
theorem Xjv {f:List UInt8} {l:List Int} {v:Int} (h1:(l.length:Int)=v+1) (h2:∀ k∈l,0≤k):VS f l v=if decide (WN l>12)=true then 4 else Jy f:=by
 unfold VS
 rw [if_neg (fun h=>h h1),if_neg (zD h2)]
 simp only [Qm]
 by_cases g:decide (WN l>12)=true
 ·rw [if_pos g,if_pos g,if_neg (by decide)]
 ·rw [if_neg g,if_neg g,if_pos rfl]
  by_cases k:Jy f=0
  ·rw [k];rfl
  ·rw [if_neg k]
theorem Xj7 {w:World} {F:Gs} {f:List UInt8} {q:Option Addr} {n cap:Nat} {l:List Int} {v:Int} (hF:Fits F w) (hGl:JB F) (hR:JP F ⟨q,n,cap⟩ l) (hf:f.length≤1000000) (hl:l.length≤1000000) (hv : -1000000≤v∧v≤1000000):QZ Tryz.prog 156 [.agg #[tx f,.slice q n cap],.int .i64 v] w F (.int .i64 (VS f l v)):=by
 have hln:l.length=n:=hR.2.1
 refine QS.intro (G:=fun F=>JB F∧JP F ⟨q,n,cap⟩ l) Tryz.func156 rfl (by rfl) rfl rfl hF (fun F' hF'=>⟨hGl.le hF',hR.le hF'⟩)<|J_sr<|Qw rfl (vs:=[_,_]) rfl (fun b2=>JS_as rfl<|JS_nt<|QG<|J_sr<|QA (QH rfl WI Qz)<|QA (Qj rfl Qz .here (.skip (.here .nil)))<|QA (Ql rfl Qf)<|JS_mv rfl<|QA (Qu rfl rfl (by omega))<|QA (QV rfl rfl rfl)<|QE<|QC ?_)
 refine QR rfl (fun hc=>?_) (fun hc=>?_)
 ·
  have hne:=bne_iff_ne.1 hc
  refine J_sr<|JS_as rfl<|JS_nt<|QT ?_
  exact QQ (()) rfl (.tmp rfl .nil) (congrArg (Value.int .i64) (by unfold VS;rw [if_pos (by rw [hln];exact hne)])) (fun F ⟨hGl,hR⟩=>trivial)
 ·
  have heq:=bne_eq_false_iff_eq.1 hc
  refine QP<|QC<|J_sr<|JS_as rfl<|JS_nt<|QG<|J_sr<|JS_as rfl<|JS_nt<|Qa<|Z3 (ι:=dU l) [(2,_)] (fun i=>[(5,.int .i64 (WN (l.take i.i))),(6,.int .i64 ((i.i:Nat):Int))]) (fun i=>l.length - i.i) (⟨0,Nat.zero_le _,by simp⟩) ⟨rfl,trivial⟩ ⟨rfl,rfl,trivial⟩ (fun i=>?_)
  simp only [List.cons_append,List.nil_append]
  have hi:=i.le
  have hb:=NG _ i.nn
  rw [List.length_take] at hb
  refine QG<|J_sr<|JS_mv rfl<|QA (QH rfl WI Qz)<|QA (Qj rfl Qz .here (.skip (.here .nil)))<|QA (Ql rfl Qf)<|QA (QV rfl rfl rfl)<|QE<|QC ?_
  refine QR rfl (fun hc=>?_) (fun hc=>?_)
  ·
   have hlt:i.i<l.length:=by have:=dec_t hc;omega
   refine QP<|QC<|QG<|Qa<|QG<|J_sr<|QA (QH rfl WI Qz)<|QA (Qj rfl Qz .here (.skip (.here .nil)))<|JS_mv rfl<|QA (Ja (n:=n) (i.i) (fun F ⟨hGl,hR⟩=>(hR).1) rfl rfl Qf Qp (by omega))<|QA (Jk (n:=n) ((i.i)*1) (fun F ⟨hGl,hR⟩=>(hR).1) (by omega) rfl Qp (JO (o:=l) (by omega)))<|QA (QV rfl rfl rfl)<|QE<|QC ?_
   refine QR rfl (fun hc=>?_) (fun hc=>?_)
   ·
    have hng:=dec_t hc
    refine J_sr<|JS_as rfl<|JS_nt<|QT ?_
    repeat (first | refine JJ ?_ | refine JA ?_)
    exact QQ (()) rfl (.tmp rfl .nil) (congrArg (Value.int .i64) (by unfold VS;rw [if_neg (by rw [hln];exact fun h=>h heq),if_pos (qc hlt hng)])) (fun F ⟨hGl,hR⟩=>trivial)
   ·
    have hng:=dec_f hc
    refine QP<|QC<|QB<|JS_mv rfl<|QA (QH rfl WI Qz)<|QA (Qj rfl Qz .here (.skip (.here .nil)))<|JS_mv rfl<|QA (Ja (n:=n) (i.i) (fun F ⟨hGl,hR⟩=>(hR).1) rfl rfl Qf Qp (by omega))<|QA (Jk (n:=n) ((i.i)*1) (fun F ⟨hGl,hR⟩=>(hR).1) (by omega) rfl Qp (JO (o:=l) (by omega)))<|QA (jQ rfl rfl)<|QA (Qu rfl rfl (by omega))<|JS_as rfl<|QE<|Qk<|QC<|QB<|JS_mv rfl<|QA (Qu rfl rfl (by omega))<|JS_as rfl<|QE ?_
    exact Qo (⟨i.i+1,hlt,by intro k hk;rw [ZD hlt] at hk;rcases List.mem_append.1 hk with hk | hk;exact i.nn k hk;rw [List.mem_singleton.1 hk,← Xp hlt];omega⟩) (by show l.length - (i.i+1)<l.length - i.i;omega) ⟨rfl,(congrArg (fun z:Int=>some (Value.int .i64 z)) (IJ hlt).symm),rfl,trivial⟩ subl_r (fun F h=>h)
  ·
   have hge:i.i=l.length:=by have:=dec_f hc;omega
   refine Q5 ?_
   repeat (first | refine Qd ?_ | refine QW (by rfl) ?_)
   refine Qe<|QC<|QG<|QG<|QB ?_
   rw [hge,List.take_length]
   have hnn:=i.nn
   rw [hge,List.take_length] at hnn
   have hte:=Xjv (f:=f) (v:=v) (by rw [hln];exact heq) hnn
   refine JS_mv rfl<|QA (QV rfl rfl rfl)<|QE<|QC ?_
   refine QR rfl (fun hc=>?_) (fun hc=>?_)
   ·
    have hbg:=hc
    refine J_sr<|JS_as rfl<|JS_nt<|QT ?_
    exact QQ (()) rfl (.tmp rfl .nil) (congrArg (Value.int .i64) (by rw [hte,if_pos hbg])) (fun F ⟨hGl,hR⟩=>trivial)
   ·
    have hbg:=hc
    refine QP<|QC<|J_sr<|QA (QH rfl BS JR)<|QA (Qj rfl JR .here (.here .nil))<|QI rfl (fun w F hF ⟨hGl,hR⟩=>LU hF (hf)) (fun _=>JS_as rfl<|JS_nt<|QT ?_)
    exact QQ (()) rfl (.tmp rfl .nil) (congrArg (Value.int .i64) (by rw [hte,hbg];rfl)) (fun F ⟨⟨hGl,hR⟩,_⟩=>trivial)
end
section
open Go.RowKit Ig
section
variable {ps:List GA} {v:Int} {i:Nat}
theorem Xm2 (h:i<ps.length) (he:VS (el ps i).f (el ps i).k v≠0):WV (XB ps) v i=VS (el ps i).f (el ps i).k v:=by
 have e:Qm [VS (el ps i).f (el ps i).k v,if((el ps i).f==[48])=true then 6 else 0]=VS (el ps i).f (el ps i).k v:=by
  unfold Qm;rw [if_neg he]
 rw [step_eq h e,if_neg (fun g=>he g.1)]
theorem Xm1 (h:i<ps.length) (he:VS (el ps i).f (el ps i).k v=0) (hz:((el ps i).f==[48])=true):WV (XB ps) v i=6:=by
 have e:Qm [VS (el ps i).f (el ps i).k v,if((el ps i).f==[48])=true then 6 else 0]=6:=by
  rw [he,if_pos hz];rfl
 rw [step_eq h e,if_neg (fun g=>by have:=g.1;omega)]
theorem Xki (h:i<ps.length) (he:VS (el ps i).f (el ps i).k v=0) (hz:((el ps i).f==[48])=false):WV (XB ps) v i=if 0<i∧before (el ps (i - 1)).k (el ps i).k=false then 11 else 0:=by
 have e:Qm [VS (el ps i).f (el ps i).k v,if((el ps i).f==[48])=true then 6 else 0]=0:=by
  rw [he,hz];rfl
 rw [step_eq h e]
 have hb:(0≤VC (el ps (i - 1)).k (el ps i).k)↔before (el ps (i - 1)).k (el ps i).k=false:=by
  rw [WL,decide_eq_false_iff_not];omega
 by_cases g:0<i∧before (el ps (i - 1)).k (el ps i).k=false
 ·rw [if_pos g,if_pos ⟨rfl,g.1,hb.2 g.2⟩]
 ·rw [if_neg g,if_neg (fun h=>g ⟨h.2.1,hb.1 h.2.2⟩)]
end
theorem Xia {w:World} {F:Gs} {q:Option Addr} {n cap:Nat} {ps:List GA} {v:Int} (hF:Fits F w) (hGl:JB F) (hR:Q9 F q n 2 (ps.flatMap WQ)) (hP:Yc F ps) (hln:ps.length=n) (hf:∀ t∈ps,t.f.length≤1000000∧t.k.length≤1000000) (hl:ps.length≤1000000) (hv:0≤v∧v≤24):QZ Tryz.prog 61 [.slice q n cap,.int .i64 v] w F (.int .i64 (Xs (XB ps) v)):=by
 have hal:(XB ps).length=n:=by unfold XB;rw [List.length_map];exact hln
 refine QS.intro (G:=fun F=>JB F∧Q9 F q n 2 (ps.flatMap WQ)∧Yc F ps) Tryz.func61 rfl (by rfl) rfl rfl hF (fun F' hF'=>⟨hGl.le hF',hR.le hF',hP.le hF'⟩)<|J_sr<|JS_as rfl<|JS_nt<|QG<|J_sr<|JS_mv rfl<|QA (Ql rfl Zh)<|QA (QV rfl rfl rfl)<|QE<|QC ?_
 refine QR rfl (fun hc=>?_) (fun hc=>?_)
 ·
  have hbig:=hc
  refine J_sr<|JS_as rfl<|JS_nt<|QT ?_
  exact QQ (()) rfl (.tmp rfl .nil) (congrArg (Value.int .i64) (by unfold Xs;rw [hal,if_pos hbig])) (fun F ⟨hGl,hR,hP⟩=>trivial)
 ·
  have hbig:=dec_f hc
  refine QP<|QC<|QG<|J_sr<|JS_as rfl<|JS_nt<|Qa<|Z3 (ι:=Ou (XB ps) v n) [(0,_),(1,_)] (fun i=>[(5,.int .i64 ((i.i:Nat):Int))]) (fun i=>n - i.i) (⟨0,Nat.zero_le _,fun j hj=>absurd hj (Nat.not_lt_zero _)⟩) ⟨rfl,rfl,trivial⟩ ⟨rfl,trivial⟩ (fun i=>?_)
  simp only [List.cons_append,List.nil_append]
  have hi:=i.le
  refine QG<|J_sr<|JS_mv rfl<|JS_mv rfl<|QA (Ql rfl Zh)<|QA (QV rfl rfl rfl)<|QE<|QC ?_
  refine QR rfl (fun hc=>?_) (fun hc=>?_)
  ·
   have hlt:i.i<n:=by have:=dec_t hc;omega
   have htm:el ps i.i∈ps:=Jc (by omega)
   refine QP<|QC<|QG<|Qa<|J_sr<|JS_mv rfl<|JS_mv rfl<|QA (Ja (n:=n) (i.i) (fun F ⟨hGl,hR,hP⟩=>hR) rfl rfl Zh Xr (by omega))<|QA (X2 (n:=n) (vs:=[tx (el ps (i.i)).f,.slice (el ps (i.i)).r.q (el ps (i.i)).r.n (el ps (i.i)).r.cap]) ((i.i)*2) (fun F ⟨hGl,hR,hP⟩=>hR) (by omega) rfl Xr rfl (fun j v hv=>XM (f:=WQ) (l:=ps) VY (by omega) hv))<|JS_mv rfl<|QI rfl (fun w F hF ⟨hGl,hR,hP⟩=>Xj7 hF (hGl) (f:=(el ps i.i).f) (l:=(el ps i.i).k) (hP _ htm) ((hf _ htm).1) ((hf _ htm).2) (by omega)) (fun _=>JS_as rfl<|JS_nt<|QG<|J_sr<|JS_mv rfl<|QA (QV rfl rfl rfl)<|QE<|QC ?_)
   refine QR rfl (fun hc=>?_) (fun hc=>?_)
   ·
    have h23:=bne_iff_ne.1 hc
    refine J_sr<|JS_mv rfl<|JS_as rfl<|JS_nt<|QT ?_
    repeat (first | refine JJ ?_ | refine JA ?_)
    exact QQ (()) rfl (.tmp rfl .nil) (congrArg (Value.int .i64) (ET hal hbig i hlt (Xm2 (by omega) h23) h23)) (fun F ⟨⟨hGl,hR,hP⟩,_⟩=>trivial)
   ·
    have h23:=bne_eq_false_iff_eq.1 hc
    refine QP<|QC<|QG<|J_sr<|JS_mv rfl<|JS_mv rfl<|QA (Ja (n:=n) (i.i) (fun F ⟨⟨hGl,hR,hP⟩,_⟩=>hR) rfl rfl Zh Xr (by omega))<|QA (QH rfl BS JR)<|QA (Jk (n:=n) ((i.i)*2+0) (fun F ⟨⟨hGl,hR,hP⟩,_⟩=>hR) (by omega) rfl JR (XM (f:=WQ) (l:=ps) VY (by omega) rfl))<|QI rfl (fun w F hF ⟨⟨hGl,hR,hP⟩,_⟩=>Xk5 hF ) (fun _=>QE<|QC ?_)
    refine QR rfl (fun hc=>?_) (fun hc=>?_)
    ·
     have h30:=hc
     refine J_sr<|JS_as rfl<|JS_nt<|QT ?_
     repeat (first | refine JJ ?_ | refine JA ?_)
     exact QQ (()) rfl (.tmp rfl .nil) (congrArg (Value.int .i64) (ET hal hbig i hlt (Xm1 (by omega) h23 h30) (by decide))) (fun F ⟨⟨⟨hGl,hR,hP⟩,_⟩,_⟩=>trivial)
    ·
     have h30:=hc
     refine QP<|QC<|QG<|JN subl_r mixed (by kernel_rfl)<|QK (QD rfl)<|QK (QV rfl rfl rfl)<|QK (QD rfl) ?_
     refine Bl (t:=33) rfl (fun hb33=>?_) (fun hb33=>?_)
     ·
      have hi0:0<i.i:=by have:=dec_t hb33;omega
      have hz0:=(PB (i.z (i.i - 1) (by omega))).1
      rw [Hj (show i.i - 1<ps.length by omega)] at hz0
      have htm0:el ps (i.i - 1)∈ps:=Jc (by omega)
      refine Jw rfl rfl<|QK (QD rfl)<|Jw rfl rfl<|QK (QD rfl)<|Jw rfl rfl<|QK (J6 rfl rfl (by omega))<|Jw rfl rfl<|QK (Ja (n:=n) ((i.i - 1)) (fun F ⟨⟨⟨hGl,hR,hP⟩,_⟩,_⟩=>hR) rfl (congrArg (fun z:Int=>some (Value.int .i64 z)) (by omega)) Zh Xr (by omega))<|Jw rfl rfl<|QK (QH rfl WI Qz)<|Jw rfl rfl<|QK (Jk (n:=n) (((i.i - 1))*2+1) (fun F ⟨⟨⟨hGl,hR,hP⟩,_⟩,_⟩=>hR) (by omega) rfl Qz (XM (f:=WQ) (l:=ps) VY (by omega) rfl))<|Jw rfl rfl<|QK (QD rfl)<|Jw rfl rfl<|QK (QD rfl)<|Jw rfl rfl<|QK (Ja (n:=n) (i.i) (fun F ⟨⟨⟨hGl,hR,hP⟩,_⟩,_⟩=>hR) rfl rfl Zh Xr (by omega))<|Jw rfl rfl<|QK (QH rfl WI Qz)<|Jw rfl rfl<|QK (Jk (n:=n) ((i.i)*2+1) (fun F ⟨⟨⟨hGl,hR,hP⟩,_⟩,_⟩=>hR) (by omega) rfl Qz (XM (f:=WQ) (l:=ps) VY (by omega) rfl))<|Jw rfl rfl<|QY rfl (fun w F hF ⟨⟨⟨hGl,hR,hP⟩,_⟩,_⟩=>Xix hF (a:=(el ps (i.i - 1)).k) (b:=(el ps i.i).k) (hP _ htm0) (hP _ htm) (V7 hz0 hv.2) (V7 h23 hv.2) (by have h1:=(Ky hz0).1;have h2:=(Ky h23).1;dsimp only at h1;omega)) (fun _=>Jw rfl rfl ?_)
      refine QK (Yt rfl)<|QK (Qi rfl rfl rfl)<|Q4<|QC ?_
      refine QR rfl (fun hc=>?_) (fun hc=>?_)
      ·
       refine J_sr<|JS_as rfl<|JS_nt<|QT ?_
       repeat (first | refine JJ ?_ | refine JA ?_)
       exact QQ (()) rfl (.tmp rfl .nil) (congrArg (Value.int .i64) (ET hal hbig i hlt (by rw [Xki (by omega) h23 h30,if_pos ⟨hi0,by simpa using hc⟩]) (by decide))) (fun F ⟨⟨⟨⟨hGl,hR,hP⟩,_⟩,_⟩,_⟩=>trivial)
      ·
       refine QP<|Qk<|QC<|QB<|JS_mv rfl<|QA (Qu rfl rfl (by omega))<|JS_as rfl<|QE ?_
       exact Qo (⟨i.i+1,hlt,fun j hj=>by
        rcases Nat.lt_or_ge j i.i with g | g
        ·exact i.z j g
        ·rw [show j=i.i from by omega];first | (rw [Xki (by omega) h23 h30,if_neg (fun h=>by have:=dec_f hb33;omega)]) | (rw [Xki (by omega) h23 h30,if_neg (fun h=>by rw [h.2] at hc;cases hc)])⟩) (by show n - (i.i+1)<n - i.i;omega) ⟨rfl,rfl,rfl,trivial⟩ subl_r (fun F h=>h.1.1.1)
     ·
      refine Js rfl rfl rfl<|Js rfl rfl rfl<|Js rfl rfl rfl<|Js rfl rfl rfl<|Js rfl rfl rfl<|Js rfl rfl rfl<|Js rfl rfl rfl<|Js rfl rfl rfl<|Js rfl rfl rfl<|Js rfl rfl rfl<|Js rfl rfl rfl<|Js rfl rfl rfl<|Js rfl rfl rfl<|QK (Qh rfl rfl rfl)<|Q4<|QC<|Z8 rfl<|QP<|Qk<|QC<|QB<|JS_mv rfl<|QA (Qu rfl rfl (by omega))<|JS_as rfl<|QE ?_
      exact Qo (⟨i.i+1,hlt,fun j hj=>by
        rcases Nat.lt_or_ge j i.i with g | g
        ·exact i.z j g
        ·rw [show j=i.i from by omega];first | (rw [Xki (by omega) h23 h30,if_neg (fun h=>by have:=dec_f hb33;omega)]) | (rw [Xki (by omega) h23 h30,if_neg (fun h=>by rw [h.2] at hc;cases hc)])⟩) (by show n - (i.i+1)<n - i.i;omega) ⟨rfl,rfl,rfl,trivial⟩ subl_r (fun F h=>h.1.1)
  ·
   have hge:n≤i.i:=by have:=dec_f hc;omega
   refine Q5 ?_
   repeat (first | refine Qd ?_ | refine QW (by rfl) ?_)
   refine Qe<|QC<|J_sr<|JS_as rfl<|JS_nt<|QT ?_
   exact QQ (()) rfl (.tmp rfl .nil) (congrArg (Value.int .i64) (I6 hal hbig i hge)) (fun F ⟨hGl,hR,hP⟩=>trivial)
end
section
open Go.RowKit Ig
def Xj4 (p:Pt):Int:=if p.any (fun x=>decide (x.2.sum>12))=true then 4 else if decide ((p.length:Int)>64)=true then 5 else if p.any (fun x=>BJ x.1 != 0)=true then 4 else 0
theorem Xg5 (ps:List GA) (q:List UInt8×List Int→Bool):(XB ps).any q=ps.any fun t=>q (t.f,t.k):=by unfold XB;rw [List.any_map];rfl
theorem Xj5 {w:World} {F:Gs} {q:Option Addr} {n cap:Nat} {ps:List GA} (hF:Fits F w) (hR:Q9 F q n 2 (ps.flatMap WQ)) (hP:Yc F ps) (hln:ps.length=n) (hf:∀ t∈ps,t.f.length≤1000000000∧PW t.k) (hl:ps.length≤1000000):QZ Tryz.prog 158 [.slice q n cap] w F (.int .i64 (Xj4 (XB ps))):=by
 have hal:(XB ps).length=n:=by rw [GU];exact hln
 refine QS.intro (G:=fun F=>Q9 F q n 2 (ps.flatMap WQ)∧Yc F ps) Tryz.func158 rfl (by rfl) rfl rfl hF (fun F' hF'=>⟨hR.le hF',hP.le hF'⟩)<|J_sr<|JS_as rfl<|JS_nt<|QG<|J_sr<|JS_as rfl<|JS_nt<|Qa<|Z3 (ι:=R5 ps (fun t=>decide (t.k.sum>12))) [(0,_)] (fun i=>[(3,.int .i64 ((i.i:Nat):Int))]) (fun i=>ps.length - i.i) (R5.start _ _) ⟨rfl,trivial⟩ ⟨rfl,trivial⟩ (fun i=>?_)
 simp only [List.cons_append,List.nil_append]
 have hi:=i.le
 refine QG<|J_sr<|JS_mv rfl<|JS_mv rfl<|QA (Ql rfl Zh)<|QA (QV rfl rfl rfl)<|QE<|QC ?_
 refine QR rfl (fun hc=>?_) (fun hc=>?_)
 ·
  have hlt:i.i<ps.length:=by have:=dec_t hc;omega
  have htm:=Jc hlt
  refine QP<|QC<|QG<|Qa<|J_sr<|JS_mv rfl<|JS_mv rfl<|QA (Ja (n:=n) (i.i) (fun F ⟨hR,hP⟩=>hR) rfl rfl Zh Xr (by omega))<|QA (QH rfl WI Qz)<|QA (Jk (n:=n) ((i.i)*2+1) (fun F ⟨hR,hP⟩=>hR) (by omega) rfl Qz (XM (f:=WQ) (l:=ps) VY (by omega) rfl))<|QI rfl (fun w F hF ⟨hR,hP⟩=>Xi2 hF (r:=(el ps i.i).r) (hP _ htm) ((hf _ htm).2)) (fun _=>QA (QV rfl rfl rfl)<|QE<|QC ?_)
  refine QR rfl (fun hc=>?_) (fun hc=>?_)
  ·
   have h17:=hc
   refine J_sr<|JS_as rfl<|JS_nt<|QT ?_
   repeat (first | refine JJ ?_ | refine JA ?_)
   exact QQ (()) rfl (.tmp rfl .nil) (congrArg (Value.int .i64) (by unfold Xj4;rw [Xg5,if_pos (i.hit hlt h17)])) (fun F ⟨⟨hR,hP⟩,_⟩=>trivial)
  ·
   have h17:=hc
   refine QP<|Qk<|QC<|QB<|JS_mv rfl<|QA (Qu rfl rfl (by omega))<|JS_as rfl<|QE ?_
   exact Qo (i.next hlt h17) (by show ps.length - (i.i+1)<ps.length - i.i;omega) ⟨rfl,rfl,trivial⟩ subl_r (fun F h=>h.1)
 ·
  have hge:ps.length≤i.i:=by have:=dec_f hc;omega
  have hn1:=i.stop hge
  refine Q5 ?_
  repeat (first | refine Qd ?_ | refine QW (by rfl) ?_)
  refine Qe<|QC<|QG<|J_sr<|JS_mv rfl<|QA (Ql rfl Zh)<|QA (QV rfl rfl rfl)<|QE<|QC ?_
  refine QR rfl (fun hc=>?_) (fun hc=>?_)
  ·
   have h20:=hc
   refine J_sr<|JS_as rfl<|JS_nt<|QT ?_
   exact QQ (()) rfl (.tmp rfl .nil) (congrArg (Value.int .i64) (by unfold Xj4;rw [Xg5,if_neg hn1,hal,if_pos h20])) (fun F ⟨hR,hP⟩=>trivial)
  ·
   have h20:=hc
   refine QP<|QC<|QG<|J_sr<|JS_as rfl<|JS_nt<|Qa<|Z3 (ι:=R5 ps (fun t=>BJ t.f != 0)) [(0,_)] (fun i2=>[(4,.int .i64 ((i2.i:Nat):Int))]) (fun i2=>ps.length - i2.i) (R5.start _ _) ⟨rfl,trivial⟩ ⟨rfl,trivial⟩ (fun i2=>?_)
   simp only [List.cons_append,List.nil_append]
   have hi2:=i2.le
   refine QG<|J_sr<|JS_mv rfl<|JS_mv rfl<|QA (Ql rfl Zh)<|QA (QV rfl rfl rfl)<|QE<|QC ?_
   refine QR rfl (fun hc=>?_) (fun hc=>?_)
   ·
    have hlt:i2.i<ps.length:=by have:=dec_t hc;omega
    have htm:=Jc hlt
    refine QP<|QC<|QG<|Qa<|J_sr<|JS_mv rfl<|JS_mv rfl<|QA (Ja (n:=n) (i2.i) (fun F ⟨hR,hP⟩=>hR) rfl rfl Zh Xr (by omega))<|QA (QH rfl BS JR)<|QA (Jk (n:=n) ((i2.i)*2+0) (fun F ⟨hR,hP⟩=>hR) (by omega) rfl JR (XM (f:=WQ) (l:=ps) VY (by omega) rfl))<|QI rfl (fun w F hF ⟨hR,hP⟩=>y3 hF ((hf _ htm).1)) (fun _=>QA (QV rfl rfl rfl)<|QE<|QC ?_)
    refine QR rfl (fun hc=>?_) (fun hc=>?_)
    ·
     have h33:=hc
     refine J_sr<|JS_as rfl<|JS_nt<|QT ?_
     repeat (first | refine JJ ?_ | refine JA ?_)
     exact QQ (()) rfl (.tmp rfl .nil) (congrArg (Value.int .i64) (by unfold Xj4;rw [Xg5,if_neg hn1,hal,if_neg (by rw [h20];decide),Xg5,if_pos (i2.hit hlt h33)])) (fun F ⟨⟨hR,hP⟩,_⟩=>trivial)
    ·
     have h33:=hc
     refine QP<|Qk<|QC<|QB<|JS_mv rfl<|QA (Qu rfl rfl (by omega))<|JS_as rfl<|QE ?_
     exact Qo (i2.next hlt h33) (by show ps.length - (i2.i+1)<ps.length - i2.i;omega) ⟨rfl,rfl,trivial⟩ subl_r (fun F h=>h.1)
   ·
    have hge2:ps.length≤i2.i:=by have:=dec_f hc;omega
    have hn2:=i2.stop hge2
    refine Q5 ?_
    repeat (first | refine Qd ?_ | refine QW (by rfl) ?_)
    refine Qe<|QC<|J_sr<|JS_as rfl<|JS_nt<|QT ?_
    exact QQ (()) rfl (.tmp rfl .nil) (congrArg (Value.int .i64) (by unfold Xj4;rw [Xg5,if_neg hn1,hal,if_neg (by rw [h20];decide),Xg5,if_neg hn2])) (fun F ⟨hR,hP⟩=>trivial)
end
section
open Go.RowKit Ig
theorem CA {w:World} {F:Gs} {b:Bool} {e:Int} (hF:Fits F w):QZ Tryz.prog 19 [.bool b,.int .i64 e] w F (.int .i64 (if b=true then e else 0)):=by
 refine QS.intro (G:=fun F=>True) Tryz.func19 rfl (by rfl) rfl rfl hF (fun F' hF'=>trivial)<|J_sr<|JS_as rfl<|JS_nt<|QG<|J_sr<|JS_mv rfl<|QE<|QC ?_
 refine QR rfl (fun hc=>?_) (fun hc=>?_)
 ·
  have hb:b=true:=hc
  refine J_sr<|JS_mv rfl<|JS_as rfl<|JS_nt<|QT ?_
  exact QQ (()) rfl (.tmp rfl .nil) (congrArg (Value.int .i64) (if_pos hb)) (fun F _=>trivial)
 ·
  have hb:b=false:=hc
  refine QP<|QC<|J_sr<|JS_as rfl<|JS_nt<|QT ?_
  exact QQ (()) rfl (.tmp rfl .nil) (congrArg (Value.int .i64) (if_neg (by rw [hb];decide))) (fun F _=>trivial)
theorem OI {w:World} {F:Gs} {q:Option Addr} {n c:Nat} {l:List Int} (hF:Fits F w) (hR:Q9 F q n 1 (l.map Qx)) (hn:n≤1000000000):QZ Tryz.prog 23 [.slice q n c] w F (.int .i64 (Qm l)):=by
 have hln:l.length=n:=by have:=hR.1;simpa using this
 refine QS.intro (G:=fun F=>Q9 F q n 1 (l.map Qx)) Tryz.func23 rfl (by rfl) rfl rfl hF (fun F' hF'=>hR.le hF')<|J_sr<|JS_as rfl<|JS_nt<|QG<|J_sr<|JS_as rfl<|JS_nt<|Qa<|Z3 (ι:=Yj l (fun x=>x)) [(0,_)] (fun i=>[(3,.int .i64 ((i.i:Nat):Int))]) (fun i=>l.length - i.i) (Yj.start _ _) ⟨rfl,trivial⟩ ⟨rfl,trivial⟩ (fun i=>?_)
 simp only [List.cons_append,List.nil_append]
 have hi:=i.le
 refine QG<|J_sr<|JS_mv rfl<|JS_mv rfl<|QA (Ql rfl Qf)<|QA (QV rfl rfl rfl)<|QE<|QC ?_
 refine QR rfl (fun hc=>?_) (fun hc=>?_)
 ·
  have hlt:i.i<l.length:=by have:=dec_t hc;omega
  refine QP<|QC<|QG<|Qa<|J_sr<|JS_mv rfl<|JS_mv rfl<|QA (Ja (n:=n) (i.i) (fun F hR=>hR) rfl rfl Qf Qp (by omega))<|QA (Jk (n:=n) ((i.i)*1) (fun F hR=>hR) (by omega) rfl Qp (JO (o:=l) (by omega)))<|QA (QV rfl rfl rfl)<|QE<|QC ?_
  refine QR rfl (fun hc=>?_) (fun hc=>?_)
  ·
   refine J_sr<|JS_mv rfl<|JS_mv rfl<|QA (Ja (n:=n) (i.i) (fun F hR=>hR) rfl rfl Qf Qp (by omega))<|QA (Jk (n:=n) ((i.i)*1) (fun F hR=>hR) (by omega) rfl Qp (JO (o:=l) (by omega)))<|JS_as rfl<|JS_nt<|QT ?_
   repeat (first | refine JJ ?_ | refine JA ?_)
   exact QQ (()) rfl (.tmp rfl .nil) (congrArg (Value.int .i64) (by rw [Xp hlt,H9 l];exact i.hit hlt (by rw [← Xp hlt];exact bne_iff_ne.1 hc))) (fun F hR=>trivial)
  ·
   refine QP<|Qk<|QC<|QB<|JS_mv rfl<|QA (Qu rfl rfl (by omega))<|JS_as rfl<|QE ?_
   exact Qo (i.next hlt (by rw [← Xp hlt];exact bne_eq_false_iff_eq.1 hc)) (by show l.length - (i.i+1)<l.length - i.i;omega) ⟨rfl,rfl,trivial⟩ subl_r (fun F h=>h)
 ·
  have hge:l.length≤i.i:=by have:=dec_f hc;omega
  refine Q5 ?_
  repeat (first | refine Qd ?_ | refine QW (by rfl) ?_)
  refine Qe<|QC<|J_sr<|JS_as rfl<|JS_nt<|QT ?_
  exact QQ (()) rfl (.tmp rfl .nil) (congrArg (Value.int .i64) (by rw [H9 l];exact i.stop hge)) (fun F hR=>trivial)
end
section
open Go.RowKit Ig
def Xii (have_:Pt) (e bad:Int) (want:Pt):Bool :=
 if bad=0 then(if Xj4 want=0 then(e==0)&&decide (have_=want) else decide ((have_.length:Int)=0)&&(e==Xj4 want)) else decide ((have_.length:Int)=0)&&(e==bad)
end
section
open Go.RowKit Ig
theorem Xk6 {w:World} {F:Gs} {q q2:Option Addr} {n cap n2 cap2:Nat} {a b:List GA} {e d:Int} (hF:Fits F w) (hR:Q9 F q n 2 (a.flatMap WQ)) (hP:Yc F a) (hR2:Q9 F q2 n2 2 (b.flatMap WQ)) (hP2:Yc F b) (hln:a.length=n) (hln2:b.length=n2) (hf:∀ t∈a,t.k.length≤1000000) (hf2:∀ t∈b,t.f.length≤1000000000∧PW t.k) (hl:a.length≤1000000) (hl2:b.length≤1000000):QZ Tryz.prog 64 [.slice q n cap,.int .i64 e,.int .i64 d,.slice q2 n2 cap2] w F (.bool (Xii (XB a) e d (XB b))):=by
 have hal:(XB a).length=n:=by rw [GU];exact hln
 refine QS.intro (G:=fun F=>Q9 F q n 2 (a.flatMap WQ)∧Yc F a∧Q9 F q2 n2 2 (b.flatMap WQ)∧Yc F b) Tryz.func64 rfl (by rfl) rfl rfl hF (fun F' hF'=>⟨hR.le hF',hP.le hF',hR2.le hF',hP2.le hF'⟩)<|J_sr<|JS_as rfl<|JS_nt<|QG<|J_sr<|JS_mv rfl<|QA (QV rfl rfl rfl)<|QE<|QC ?_
 refine QR rfl (fun hc=>?_) (fun hc=>?_)
 ·
  have h10:=eq_of_beq hc
  refine QB<|JS_mv rfl<|QI rfl (fun w F hF ⟨hR,hP,hR2,hP2⟩=>Xj5 hF (hR2) (hP2) (hln2) (hf2) (hl2)) (fun _=>JS_as rfl<|JS_nt<|QG<|J_sr<|JS_mv rfl<|QA (QV rfl rfl rfl)<|QE<|QC ?_)
  refine QR rfl (fun hc=>?_) (fun hc=>?_)
  ·
   have h14:=bne_iff_ne.1 hc
   refine J_sr<|JS_mv rfl<|QA (Ql rfl Zh)<|QA (QV rfl rfl rfl)<|JS_mv rfl ?_
   refine Qn (t:=18) rfl (fun hb18=>?_) (fun hb18=>?_)
   ·
    refine QL rfl rfl<|JS_mv rfl<|QL rfl rfl<|JS_mv rfl<|QL rfl rfl<|QA (QV rfl rfl rfl)<|QA (Qi rfl rfl rfl)<|JS_as rfl<|JS_nt<|QT ?_
    exact QQ (()) rfl (.tmp rfl .nil) (congrArg Value.bool (by unfold Xii;rw [hal];simp_all)) (fun F ⟨⟨hR,hP,hR2,hP2⟩,_⟩=>trivial)
   ·
    refine QO rfl rfl rfl<|QO rfl rfl rfl<|QO rfl rfl rfl<|QA (Qh rfl rfl rfl)<|JS_as rfl<|JS_nt<|QT ?_
    exact QQ (()) rfl (.tmp rfl .nil) (congrArg Value.bool (by unfold Xii;rw [hal];simp_all)) (fun F ⟨⟨hR,hP,hR2,hP2⟩,_⟩=>trivial)
  ·
   have h14:=bne_eq_false_iff_eq.1 hc
   refine QP<|QC<|J_sr<|JS_mv rfl<|QA (QV rfl rfl rfl)<|JS_mv rfl ?_
   refine Qn (t:=25) rfl (fun hb25=>?_) (fun hb25=>?_)
   ·
    refine QL rfl rfl<|JS_mv rfl<|QL rfl rfl<|JS_mv rfl<|QL rfl rfl<|QI rfl (fun w F hF ⟨⟨hR,hP,hR2,hP2⟩,_⟩=>Si hF (hR) (hP) (hR2) (hP2) (hln) (hln2) (hf) (hl)) (fun _=>QA (Qi rfl rfl rfl)<|JS_as rfl<|JS_nt<|QT ?_)
    exact QQ (()) rfl (.tmp rfl .nil) (congrArg Value.bool (by unfold Xii;rw [hal];simp_all)) (fun F ⟨⟨⟨hR,hP,hR2,hP2⟩,_⟩,_⟩=>trivial)
   ·
    refine QO rfl rfl rfl<|QO rfl rfl rfl<|QO rfl rfl rfl<|QA (Qh rfl rfl rfl)<|JS_as rfl<|JS_nt<|QT ?_
    exact QQ (()) rfl (.tmp rfl .nil) (congrArg Value.bool (by unfold Xii;rw [hal];simp_all)) (fun F ⟨⟨hR,hP,hR2,hP2⟩,_⟩=>trivial)
 ·
  have h10:¬ d=0:=fun e=>by rw [e] at hc;cases hc
  refine QP<|QC<|QG<|J_sr<|JS_mv rfl<|QA (QV rfl rfl rfl)<|QE<|QC ?_
  refine QR rfl (fun hc=>?_) (fun hc=>?_)
  ·
   have h14:=bne_iff_ne.1 hc
   refine J_sr<|JS_mv rfl<|QA (Ql rfl Zh)<|QA (QV rfl rfl rfl)<|JS_mv rfl ?_
   refine Qn (t:=18) rfl (fun hb18=>?_) (fun hb18=>?_)
   ·
    refine QL rfl rfl<|JS_mv rfl<|QL rfl rfl<|JS_mv rfl<|QL rfl rfl<|QA (QV rfl rfl rfl)<|QA (Qi rfl rfl rfl)<|JS_as rfl<|JS_nt<|QT ?_
    exact QQ (()) rfl (.tmp rfl .nil) (congrArg Value.bool (by unfold Xii;rw [hal];simp_all)) (fun F ⟨hR,hP,hR2,hP2⟩=>trivial)
   ·
    refine QO rfl rfl rfl<|QO rfl rfl rfl<|QO rfl rfl rfl<|QA (Qh rfl rfl rfl)<|JS_as rfl<|JS_nt<|QT ?_
    exact QQ (()) rfl (.tmp rfl .nil) (congrArg Value.bool (by unfold Xii;rw [hal];simp_all)) (fun F ⟨hR,hP,hR2,hP2⟩=>trivial)
  ·
   have h14:=bne_eq_false_iff_eq.1 hc
   refine QP<|QC<|J_sr<|JS_mv rfl<|QA (QV rfl rfl rfl)<|JS_mv rfl ?_
   refine Qn (t:=25) rfl (fun hb25=>?_) (fun hb25=>?_)
   ·
    refine QL rfl rfl<|JS_mv rfl<|QL rfl rfl<|JS_mv rfl<|QL rfl rfl<|QI rfl (fun w F hF ⟨hR,hP,hR2,hP2⟩=>Si hF (hR) (hP) (hR2) (hP2) (hln) (hln2) (hf) (hl)) (fun _=>QA (Qi rfl rfl rfl)<|JS_as rfl<|JS_nt<|QT ?_)
    exact QQ (()) rfl (.tmp rfl .nil) (congrArg Value.bool (by unfold Xii;rw [hal];simp_all)) (fun F ⟨⟨hR,hP,hR2,hP2⟩,_⟩=>trivial)
   ·
    refine QO rfl rfl rfl<|QO rfl rfl rfl<|QO rfl rfl rfl<|QA (Qh rfl rfl rfl)<|JS_as rfl<|JS_nt<|QT ?_
    exact QQ (()) rfl (.tmp rfl .nil) (congrArg Value.bool (by unfold Xii;rw [hal];simp_all)) (fun F ⟨hR,hP,hR2,hP2⟩=>trivial)
end
section
open Go.RowKit Ig
def Xit (p:Pt):Bool:=!(p.any fun x=>decide ((x.2.length:Int)>30)||decide ((x.1.length:Int)>20))
def Xgg (p:Pt):Bool:=if(decide ((p.length:Int)>8)&&decide ((p.length:Int)≤64))||decide ((p.length:Int)>70) then false else Xit p
theorem Xk7 {w:World} {F:Gs} {q:Option Addr} {n cap:Nat} {ps:List GA} (hF:Fits F w) (hR:Q9 F q n 2 (ps.flatMap WQ)) (hP:Yc F ps) (hln:ps.length=n) (hl:ps.length≤1000000):QZ Tryz.prog 58 [.slice q n cap] w F (.bool (Xit (XB ps))):=by
 refine QS.intro (G:=fun F=>Q9 F q n 2 (ps.flatMap WQ)∧Yc F ps) Tryz.func58 rfl (by rfl) rfl rfl hF (fun F' hF'=>⟨hR.le hF',hP.le hF'⟩)<|J_sr<|JS_as rfl<|JS_nt<|QG<|J_sr<|JS_as rfl<|JS_nt<|Qa<|Z3 (ι:=R5 ps (fun t=>decide ((t.k.length:Int)>30)||decide ((t.f.length:Int)>20))) [(0,_)] (fun i=>[(3,.int .i64 ((i.i:Nat):Int))]) (fun i=>ps.length - i.i) (R5.start _ _) ⟨rfl,trivial⟩ ⟨rfl,trivial⟩ (fun i=>?_)
 simp only [List.cons_append,List.nil_append]
 have hi:=i.le
 refine QG<|J_sr<|JS_mv rfl<|JS_mv rfl<|QA (Ql rfl Xi6)<|QA (QV rfl rfl rfl)<|QE<|QC ?_
 refine QR rfl (fun hc2=>?_) (fun hc2=>?_)
 ·
  have hlt:i.i<ps.length:=by have:=dec_t hc2;omega
  have htm:=Jc hlt
  have hkl:(el ps i.i).k.length=(el ps i.i).r.n:=(hP _ htm).2.1
  refine QP<|QC<|QG<|Qa<|J_sr<|JS_mv rfl<|JS_mv rfl<|QA (Ja (n:=n) (i.i) (fun F ⟨hR,hP⟩=>hR) rfl rfl Xi6 Xr (by omega))<|QA (QH rfl WI Qz)<|QA (Jk (n:=n) ((i.i)*2+1) (fun F ⟨hR,hP⟩=>hR) (by omega) rfl Qz (XM (f:=WQ) (l:=ps) VY (by omega) rfl))<|QA (Ql rfl Qf)<|QA (QV rfl rfl rfl)<|JS_mv rfl ?_
  refine Qn (t:=17) rfl (fun hb17=>?_) (fun hb17=>?_)
  ·
   refine QO rfl rfl rfl<|QO rfl rfl rfl<|QO rfl rfl rfl<|QO rfl rfl rfl<|QO rfl rfl rfl<|QO rfl rfl rfl<|QO rfl rfl rfl<|QA (Qi rfl rfl rfl)<|JS_nt<|WT rfl<|J_sr<|JS_as rfl<|JS_nt<|QT ?_
   repeat (first | refine JJ ?_ | refine JA ?_)
   exact QQ (()) rfl (.tmp rfl .nil) (congrArg Value.bool (by unfold Xit;rw [Xg5,i.hit hlt (by rw [hkl,hb17];rfl)];rfl)) (fun F ⟨hR,hP⟩=>trivial)
  ·
   refine QL rfl rfl<|JS_mv rfl<|QL rfl rfl<|JS_mv rfl<|QL rfl rfl<|QA (Ja (n:=n) (i.i) (fun F ⟨hR,hP⟩=>hR) rfl rfl Xi6 Xr (by omega))<|QL rfl rfl<|QA (QH rfl BS JR)<|QL rfl rfl<|QA (Jk (n:=n) ((i.i)*2+0) (fun F ⟨hR,hP⟩=>hR) (by omega) rfl JR (XM (f:=WQ) (l:=ps) VY (by omega) rfl))<|QL rfl rfl<|QA (J9 rfl MQ)<|QL rfl rfl<|QA (QV rfl rfl rfl)<|QA (Qh rfl rfl rfl)<|QE<|QC ?_
   refine QR rfl (fun hc2=>?_) (fun hc2=>?_)
   ·
    refine J_sr<|JS_as rfl<|JS_nt<|QT ?_
    repeat (first | refine JJ ?_ | refine JA ?_)
    exact QQ (()) rfl (.tmp rfl .nil) (congrArg Value.bool (by unfold Xit;rw [Xg5,i.hit hlt (by rw [hc2];simp)];rfl)) (fun F ⟨hR,hP⟩=>trivial)
   ·
    refine QP<|Qk<|QC<|QB<|JS_mv rfl<|QA (Qu rfl rfl (by omega))<|JS_as rfl<|QE ?_
    exact Qo (i.next hlt (by rw [hkl,hb17,Bool.false_or];exact hc2)) (by show ps.length - (i.i+1)<ps.length - i.i;omega) ⟨rfl,rfl,trivial⟩ subl_r (fun F h=>h)
 ·
  have hge:ps.length≤i.i:=by have:=dec_f hc2;omega
  refine Q5 ?_
  repeat (first | refine Qd ?_ | refine QW (by rfl) ?_)
  refine Qe<|QC<|J_sr<|JS_as rfl<|JS_nt<|QT ?_
  exact QQ (()) rfl (.tmp rfl .nil) (congrArg Value.bool (by unfold Xit;rw [Xg5];simp only [i.stop hge];rfl)) (fun F ⟨hR,hP⟩=>trivial)
end
section
open Go.RowKit Ig
section
variable [Dr] [df:Df] {N:Nat} {m:Sl} {S:World→Prop} {ty:TypeId}
theorem jR {yT:TypeId} {x y:Operand} {a b c d:List UInt8} (hx:ev m x=some (.agg #[tx a,tx b])) (hy:ev m y=some (.agg #[tx c,tx d])):Qt Tryz.prog N m S (.binOp .eql 24 x y yT) ty (.bool (decide (a=c)&&decide (b=d))):=fun ac w _ _ _ _ ha _=>by
 have h1:=equal_span w a b c d
 simp only [execOp,ha.ev hx,ha.ev hy,Sem.run_bind]
 have h2:(eqGuard .eql 24 x y (.agg #[tx a,tx b]) (.agg #[tx c,tx d])).run Tryz.prog w = .ok () w:=by
  simp [eqGuard,P9]
 rw [h2]
 simp [binOp,h1]
end
end
section
open Go.RowKit Ig
def GO (w:List UInt8×List UInt8):Int:=Qm [BJ w.1,BJ w.2]
def UN (have_:List UInt8×List UInt8) (e bad:Int) (want:List UInt8×List UInt8):Bool :=
 if bad=0 then(if GO want=0 then(e==0)&&(decide (have_.1=want.1)&&decide (have_.2=want.2)) else(have_.1==[])&&((have_.2==[])&&(e==GO want))) else(have_.1==[])&&((have_.2==[])&&(e==bad))
theorem zi {w:World} {F:Gs} {a b:List UInt8×List UInt8} {e d:Int} (hF:Fits F w) (hl:b.1.length≤1000000∧b.2.length≤1000000):QZ Tryz.prog 26 [.agg #[tx a.1,tx a.2],.int .i64 e,.int .i64 d,.agg #[tx b.1,tx b.2]] w F (.bool (UN a e d b)):=by
 refine QS.intro (G:=fun F=>True) Tryz.func26 rfl (by rfl) rfl rfl hF (fun F' hF'=>trivial)<|J_sr<|Qw rfl (vs:=[_,_]) rfl (fun b4=>Qw rfl (vs:=[_,_]) rfl (fun b7=>JS_as rfl<|JS_nt<|QG<|J_sr<|JS_mv rfl<|QA (QV rfl rfl rfl)<|QE<|QC ?_))
 refine QR rfl (fun hc=>?_) (fun hc=>?_)
 ·
  have h10:=eq_of_beq hc
  refine QB<|QA (QJ (vs:=[_,_]) rfl JC .here (.here (.here .nil)) rfl)<|QI rfl (fun w F hF _=>CV hF (hl)) (fun _=>JS_as rfl<|JS_nt<|QG<|J_sr<|JS_mv rfl<|QA (QV rfl rfl rfl)<|QE<|QC ?_)
  refine QR rfl (fun hc=>?_) (fun hc=>?_)
  ·
   have h14:=bne_iff_ne.1 hc
   refine J_sr<|QA (QH rfl Yr JR)<|QA (Qj rfl JR (.there .here) (.here .nil))<|QA (K3 rfl rfl)<|JS_mv rfl ?_
   refine Qn (t:=18) rfl (fun hb18=>?_) (fun hb18=>?_)
   ·
    refine QL rfl rfl<|QA (QH rfl Yz JR)<|QL rfl rfl<|QA (Qj rfl JR (.there .here) (.skip (.here .nil)))<|QL rfl rfl<|QA (K3 rfl rfl)<|QA (Qi rfl rfl rfl)<|JS_mv rfl ?_
    refine Qn (t:=23) rfl (fun hb23=>?_) (fun hb23=>?_)
    ·
     refine QL rfl rfl<|JS_mv rfl<|QL rfl rfl<|JS_mv rfl<|QL rfl rfl<|QA (QV rfl rfl rfl)<|QA (Qi rfl rfl rfl)<|JS_as rfl<|JS_nt<|QT ?_
     exact QQ (()) rfl (.tmp rfl .nil) (congrArg Value.bool (by unfold UN GO;simp_all)) (fun F ⟨_,_⟩=>trivial)
    ·
     refine QO rfl rfl rfl<|QO rfl rfl rfl<|QO rfl rfl rfl<|QA (Qh rfl rfl rfl)<|JS_as rfl<|JS_nt<|QT ?_
     exact QQ (()) rfl (.tmp rfl .nil) (congrArg Value.bool (by unfold UN GO;simp_all)) (fun F ⟨_,_⟩=>trivial)
   ·
    refine QO rfl rfl rfl<|QO rfl rfl rfl<|QO rfl rfl rfl<|QA (Qh rfl rfl rfl)<|JS_mv rfl<|QO rfl rfl rfl<|QO rfl rfl rfl<|QO rfl rfl rfl<|QA (Qh rfl rfl rfl)<|JS_as rfl<|JS_nt<|QT ?_
    exact QQ (()) rfl (.tmp rfl .nil) (congrArg Value.bool (by unfold UN GO;simp_all)) (fun F ⟨_,_⟩=>trivial)
  ·
   have h14:=bne_eq_false_iff_eq.1 hc
   refine QP<|QC<|J_sr<|JS_mv rfl<|QA (QV rfl rfl rfl)<|JS_mv rfl ?_
   refine Qn (t:=30) rfl (fun hb30=>?_) (fun hb30=>?_)
   ·
    refine QL rfl rfl<|QA (QJ (vs:=[_,_]) rfl JC (.there .here) (.here (.here .nil)) rfl)<|QL rfl rfl<|QA (QJ (vs:=[_,_]) rfl JC .here (.here (.here .nil)) rfl)<|QL rfl rfl<|QA (jR rfl rfl)<|QA (Qi rfl rfl rfl)<|JS_as rfl<|JS_nt<|QT ?_
    exact QQ (()) rfl (.tmp rfl .nil) (congrArg Value.bool (by unfold UN GO;simp_all)) (fun F ⟨_,_⟩=>trivial)
   ·
    refine QO rfl rfl rfl<|QO rfl rfl rfl<|QO rfl rfl rfl<|QA (Qh rfl rfl rfl)<|JS_as rfl<|JS_nt<|QT ?_
    exact QQ (()) rfl (.tmp rfl .nil) (congrArg Value.bool (by unfold UN GO;simp_all)) (fun F ⟨_,_⟩=>trivial)
 ·
  have h10:¬ d=0:=fun e=>by rw [e] at hc;cases hc
  refine QP<|QC<|QG<|J_sr<|JS_mv rfl<|QA (QV rfl rfl rfl)<|QE<|QC ?_
  refine QR rfl (fun hc=>?_) (fun hc=>?_)
  ·
   have h14:=bne_iff_ne.1 hc
   refine J_sr<|QA (QH rfl Yr JR)<|QA (Qj rfl JR (.there .here) (.here .nil))<|QA (K3 rfl rfl)<|JS_mv rfl ?_
   refine Qn (t:=18) rfl (fun hb18=>?_) (fun hb18=>?_)
   ·
    refine QL rfl rfl<|QA (QH rfl Yz JR)<|QL rfl rfl<|QA (Qj rfl JR (.there .here) (.skip (.here .nil)))<|QL rfl rfl<|QA (K3 rfl rfl)<|QA (Qi rfl rfl rfl)<|JS_mv rfl ?_
    refine Qn (t:=23) rfl (fun hb23=>?_) (fun hb23=>?_)
    ·
     refine QL rfl rfl<|JS_mv rfl<|QL rfl rfl<|JS_mv rfl<|QL rfl rfl<|QA (QV rfl rfl rfl)<|QA (Qi rfl rfl rfl)<|JS_as rfl<|JS_nt<|QT ?_
     exact QQ (()) rfl (.tmp rfl .nil) (congrArg Value.bool (by unfold UN GO;simp_all)) (fun F _=>trivial)
    ·
     refine QO rfl rfl rfl<|QO rfl rfl rfl<|QO rfl rfl rfl<|QA (Qh rfl rfl rfl)<|JS_as rfl<|JS_nt<|QT ?_
     exact QQ (()) rfl (.tmp rfl .nil) (congrArg Value.bool (by unfold UN GO;simp_all)) (fun F _=>trivial)
   ·
    refine QO rfl rfl rfl<|QO rfl rfl rfl<|QO rfl rfl rfl<|QA (Qh rfl rfl rfl)<|JS_mv rfl<|QO rfl rfl rfl<|QO rfl rfl rfl<|QO rfl rfl rfl<|QA (Qh rfl rfl rfl)<|JS_as rfl<|JS_nt<|QT ?_
    exact QQ (()) rfl (.tmp rfl .nil) (congrArg Value.bool (by unfold UN GO;simp_all)) (fun F _=>trivial)
  ·
   have h14:=bne_eq_false_iff_eq.1 hc
   refine QP<|QC<|J_sr<|JS_mv rfl<|QA (QV rfl rfl rfl)<|JS_mv rfl ?_
   refine Qn (t:=30) rfl (fun hb30=>?_) (fun hb30=>?_)
   ·
    refine QL rfl rfl<|QA (QJ (vs:=[_,_]) rfl JC (.there .here) (.here (.here .nil)) rfl)<|QL rfl rfl<|QA (QJ (vs:=[_,_]) rfl JC .here (.here (.here .nil)) rfl)<|QL rfl rfl<|QA (jR rfl rfl)<|QA (Qi rfl rfl rfl)<|JS_as rfl<|JS_nt<|QT ?_
    exact QQ (()) rfl (.tmp rfl .nil) (congrArg Value.bool (by unfold UN GO;simp_all)) (fun F _=>trivial)
   ·
    refine QO rfl rfl rfl<|QO rfl rfl rfl<|QO rfl rfl rfl<|QA (Qh rfl rfl rfl)<|JS_as rfl<|JS_nt<|QT ?_
    exact QQ (()) rfl (.tmp rfl .nil) (congrArg Value.bool (by unfold UN GO;simp_all)) (fun F _=>trivial)
end
section
open Go.RowKit Ig
theorem ku (z:Int):O4 (Xu z)=Lib.decDigits z.natAbs:=by
 have h:=LA ((z:Int):Rat)
 rw [qC,show((z:Int):Rat).num=z from by simp] at h
 unfold O4
 rw [h]
 unfold EP
 by_cases h0:z<0
 ·rw [if_pos h0,if_pos (by decide),YB h0];rfl
 ·rw [if_neg h0,Jx (by omega),if_neg (by split<;>decide)]
theorem CB (x:Rat):BJ (JQ x)=if Xi x=true then 4 else 0:=by
 have hn:decide (600<(O4 (numOf (JQ x))).length)=Dk x.num:=by
  have e:numOf (JQ x)=Xu x.num:=by
   unfold numOf
   by_cases h:x.den=1
   ·obtain ⟨h1,h2⟩:=Ni h
    rw [h2,List.take_length,h1]
   ·exact(G7 h).2.2.1
  rw [e,ku]
  unfold Dk
  exact decide_eq_decide.2 (As _)
 have hd:decide (600<(T8 (JQ x)).length)=Dk x.den:=by
  unfold T8 Dk
  by_cases h:x.den=1
  ·rw [if_pos ((Nj x).2 h),h]
   have h1:¬ lim≤(((1:Nat):Int)).natAbs:=by
    exact Nat.not_le.2 (Nat.lt_of_le_of_lt Nat.one_le_two_pow Io)
   rw [decide_eq_false h1]
   simp
  ·rw [if_neg fun e=>h ((Nj x).1 e),(G7 h).2.2.2]
   exact decide_eq_decide.2 (As _)
 unfold BJ Xi
 rw [hn,hd]
theorem yr (x:Rat×Rat):UN (Vi x).1 (Vi x).2 0 (JQ x.1,JQ x.2)=true:=by
 unfold UN Vi GO
 dsimp only
 rw [if_pos rfl,CB,CB]
 cases Xi x.1<;>cases Xi x.2<;>simp [Qm]
end
section
open Go.RowKit Ig
structure NmI (s:List UInt8) where
 i:Nat
 le:i≤s.length
 e:Gq 0 s=Gq i (s.drop i)
end
section
open Go.RowKit Ig
structure TiI (g:Bool) (l:List Int) where
 k:Nat
 le:k≤l.length
 lo : -9223372036854775808≤G9 g (l.drop k)
 hi:G9 g (l.drop k)≤9223372036854775807
def sdg (g:Bool) (d:Int):Int:=if g=true then -d else d
def ovB (o d:Int):Bool:=(decide (o>9223372036)||decide (o < -9223372036))||(decide (o=9223372036)&&decide (d>854775807))||(decide (o = -9223372036)&&decide (d < -854775808))
theorem Xfi {l:List Int} {k:Nat} (h:k<l.length):Qg l k∈l:=by rw [ZJ h];exact List.getElem_mem h
theorem Xf3 {l:List Int} {k:Nat} (h0:0<k) (h:k≤l.length):dv B9 (l.drop (k - 1))=Qg l (k - 1)+B9*dv B9 (l.drop k):=by
 have hk:k - 1<l.length:=by omega
 rw [List.drop_eq_getElem_cons hk,show k - 1+1=k by omega,dv,ZJ hk]
theorem DG.drop {l:List Int} (hd:DG B9 l) (k:Nat):DG B9 (l.drop k):=fun x hx=>hd x (List.mem_of_mem_drop hx)
theorem Xf5 {g:Bool} {l:List Int} {k:Nat} (h0:0<k) (h:k≤l.length):G9 g (l.drop (k - 1))=G9 g (l.drop k)*1000000000+sdg g (Qg l (k - 1)):=by
 unfold G9 sdg
 rw [Xf3 h0 h]
 unfold B9
 cases g<;>simp<;>omega
theorem Xfv {g:Bool} {l:List Int} {k:Nat} (hd:DG B9 l) (h0:0<k) (h:k≤l.length) (hb:ovB (G9 g (l.drop k)) (sdg g (Qg l (k - 1)))=false):(-9223372036≤G9 g (l.drop k)∧G9 g (l.drop k)≤9223372036)∧-9223372036854775808≤G9 g (l.drop k)*1000000000+sdg g (Qg l (k - 1))∧G9 g (l.drop k)*1000000000+sdg g (Qg l (k - 1))≤9223372036854775807:=by
 have h2:0≤dv B9 (l.drop k):=Qs (by decide) (hd.drop k)
 have h3:=hd _ (Xfi (show k - 1<l.length by omega))
 unfold ovB G9 sdg at hb
 unfold G9 sdg
 unfold B9 at *
 cases g
 ·simp at hb ⊢;omega
 ·simp at hb ⊢;omega
def TiI.next {g:Bool} {l:List Int} (i:TiI g l) (hd:DG B9 l) (h0:0<i.k) (hb:ovB (G9 g (l.drop i.k)) (sdg g (Qg l (i.k - 1)))=false):TiI g l:=⟨i.k - 1,by have:=i.le;omega,by
  rw [Xf5 h0 i.le];exact(Xfv hd h0 i.le hb).2.1,by
  rw [Xf5 h0 i.le];exact(Xfv hd h0 i.le hb).2.2⟩
end
section
open Go.RowKit Ig
def Xez (c:UInt8):Bool:=c==47||c==46
structure PtI (s:List UInt8) where
 i:Nat
 le:i≤s.length
 z:(s.take i).all (fun c=>!Xez c)=true
theorem Xex {s:List UInt8} {i:Nat} (h:i<s.length):s.take (i+1)=s.take i++[s[i]]:=by
 rw [List.take_succ,List.getElem?_eq_getElem h];rfl
def PtI.next {s:List UInt8} (j:PtI s) (h:j.i<s.length) (e:Xez s[j.i]=false):PtI s:=⟨j.i+1,h,by rw [Xex h,List.all_append,j.z];simp [e]⟩
end
section
open Go.RowKit Ig
def ptK (t:List UInt8):Nat:=ahead Xez t
def Xev (t:List UInt8):Bool:=decide (ptK t<t.length)&&el t (ptK t)==46
end
section
open Go.RowKit Ig
section
variable {w:World} {F:Gs}
theorem O7 {p:(List UInt8×List UInt8)×Int} {r:Rat×Rat} (hF:Fits F w) (hp:p=Vi r) (hr:JL r.1≤400000∧JL r.2≤400000):QZ Tryz.prog 26 [.agg #[tx p.1.1,tx p.1.2],.int .i64 p.2,.int .i64 0,.agg #[tx (JQ r.1),tx (JQ r.2)]] w F (.bool true):=by
 rw [hp]
 have h:=zi (a:=(Vi r).1) (b:=(JQ r.1,JQ r.2)) (e:=(Vi r).2) (d:=0) hF ⟨by have:=Gy r.1;show(JQ r.1).length≤_;omega,by have:=Gy r.2;show(JQ r.2).length≤_;omega⟩
 rw [yr] at h
 exact h
variable {a b:List UInt8}
end
end
section
open Go.RowKit Ig
theorem A4 (x y:Rat):Vg x y≤0↔x≤y:=by
 unfold Vg
 by_cases h:x<y
 ·rw [if_pos h];exact⟨fun _=>Rat.le_of_lt h,fun _=>by decide⟩
 ·rw [if_neg h]
  by_cases e:x=y
  ·rw [if_pos e,e];exact⟨fun _=>Rat.le_refl,fun _=>by decide⟩
  ·rw [if_neg e];refine⟨fun k=>absurd k (by decide),fun k=>absurd (Rat.lt_of_le_of_ne k e) h⟩
end
section
open Go.RowKit Ig
def Vh (a:List UInt8×List UInt8):Prop:=JM a.1 a.2=0
def vS (a:List UInt8×List UInt8):Rat×Rat:=(Ju a.1,Ju a.2)
theorem Vh.v {a:List UInt8×List UInt8} (h:Vh a):I8 (vS a) = .agg #[tx a.1,tx a.2]:=by
 obtain ⟨h1,h2,_⟩:=Z2 h
 show Value.agg #[tx (JQ (Ju a.1)),tx (JQ (Ju a.2))]=_
 rw [← (Zj h1).1,← (Zj h2).1]
theorem Vh.sz {a:List UInt8×List UInt8} (h:Vh a):CM 2400 (vS a):=by
 obtain ⟨h1,h2,_⟩:=Z2 h
 exact⟨XH h1,XH h2⟩
theorem Vh.le {a:List UInt8×List UInt8} (h:Vh a):(vS a).1≤(vS a).2:=by
 obtain ⟨_,_,h3⟩:=Z2 h
 exact(A4 _ _).1 (Int.not_lt.1 h3)
theorem O6 (u:Nat) {k:Nat} (hk:0<k) (h:(Lib.decDigits u).length≤k):sz (u:Int)≤4*k:=by
 rw [Lib.decDigits_length] at h
 rw [Xx,Int.natAbs_natCast]
 have h1:¬ 10^k≤u:=fun e=>by have:=(RZ (u:=u) hk).2 e;omega
 have h2:10^k≤16^k:=Nat.pow_le_pow_left (by decide) _
 have h3:(16:Nat)^k=2^(4*k):=by rw [Nat.pow_mul]
 rw [← h3]
 exact Nat.lt_of_lt_of_le (Nat.lt_of_not_le h1) h2
theorem zR (z:Int) {k:Nat} (hk:0<k) (h:(Xu z).length≤k):sz z≤4*k:=by
 have e:sz z=sz (z.natAbs:Int):=by unfold sz;simp
 rw [e]
 refine O6 _ hk ?_
 rcases Int.lt_or_le z 0 with g | g
 ·rw [YB g,List.length_cons] at h;omega
 ·rwa [Jx g] at h
theorem va (x:Rat) {k:Nat} (hk:0<k) (h:(JQ x).length≤k):JL x≤4*k:=by
 unfold JL
 unfold JQ at h
 split at h
 ·rename_i hd
  rw [hd]
  exact Nat.max_le.2 ⟨zR _ hk h,Nat.le_trans (show sz ((1:Nat):Int)≤1 by decide) (by omega)⟩
 ·rw [List.length_append,List.length_cons] at h
  exact Nat.max_le.2 ⟨zR _ hk (by omega),O6 _ hk (by omega)⟩
theorem q8 {s:List UInt8} (h:Jy s=0) {k:Nat} (hk:0<k) (hl:s.length≤k):JL (Ju s)≤4*k :=
 va _ hk (by rw [← (Zj h).1];exact hl)
theorem CM.le {a:Rat×Rat} {k k':Nat} (h:CM k a) (hk:k≤k'):CM k' a:=⟨Nat.le_trans h.1 hk,Nat.le_trans h.2 hk⟩
section
variable {w:World} {F:Gs} {a b:List UInt8×List UInt8}
theorem UP {p:(List UInt8×List UInt8)×Int} {r:Rat×Rat} (hF:Fits F w) (hp:p=Vi r) (hr:JL r.1≤400000∧JL r.2≤400000):QZ Tryz.prog 26 [.agg #[tx p.1.1,tx p.1.2],.int .i64 p.2,.int .i64 0,I8 r] w F (.bool true):=O7 hF hp hr
def Iu (a:List UInt8×List UInt8) (n:Int):List UInt8×List UInt8:=if Qm [JM a.1 a.2,GH n]=0 then(JQ (Vx (vS a) n).1,JQ (Vx (vS a) n).2) else([],[])
end
end
section
open Go.RowKit Ig
theorem Xhv {t:List UInt8} (hk:ptK t<t.length):(((t[ptK t]).toNat:Int)==46)=Xev t:=by
 unfold Xev;rw [decide_eq_true hk,Za hk,Bool.true_and];exact MD rfl
structure PrJ (t:List UInt8) where
 j:Nat
 n:Ri
 d:Ri
 le:j≤(t.drop (ptK t+1)).length
end
section
open Go.RowKit Ig
theorem Xc5 (r:Rat):Ju (JQ r)=r:=by
 unfold Ju JQ
 by_cases h:r.den=1
 ·rw [if_pos h,IC (PS _)]
  dsimp only
  rw [if_neg (by decide),Yo]
  have:=Rat.mkRat_self r
  rw [h,Rat.mkRat_one] at this
  exact this
 ·rw [if_neg h,ND (PS _)]
  dsimp only
  rw [if_pos rfl,Yo,X1]
  exact Rat.mkRat_self r
end
section
open Go.RowKit Ig
section
variable {P:Program} {N:Nat} {m:Sl} {Y:World→Prop} {ty:TypeId}
theorem Xji {T e:TypeId} {x:Operand} {lo:Option Operand} {vl:Option Value} {q:Option Addr} {n c sz:Nat} {g:Bool} (l:Nat) (hx:ev m x=some (.slice q n c)) (el:U2 m lo=some vl) (hl:vl=some (.int .i64 (l:Int))) (hT:Hp P T=some e) (hs:Z9 P e=some (g,sz)) (hln:l≤n) (hc:n≤c) :
  Qt P N m Y (.slice T x lo none none) ty (.slice (if c=l then q else q.map fun a=>a.add (l*sz)) (n - l) (c - l)):=fun a w _ _ _ _ ha _=>by
 subst hl
 have hlc:l≤c:=Nat.le_trans hln hc
 have hrun:(Instr.slice T (.slice q n c) (some (.int .i64 (l:Int))) none none).run P w = .ok (.slice (if c=l then q else q.map fun a=>a.add (l*sz)) (n - l) (c - l)) w:=by
  simp [Instr.slice,run_underlying (Q6 hT),Instr.sliceBounds,Instr.sliceBound,asIntOf,hc,hln,hlc,YA hs]
 simp [execOp,ha.ev hx,ha.U2 el,Instr.sliceAt,run_underlying (Q6 hT),hrun]
end
theorem Q9.drop {F:Gs} {q:Option Addr} {n sz c:Nat} {cs:List Value} (h:Q9 F q n sz cs) (hc:n≤c) (l:Nat):Q9 F (if c=l then q else q.map fun a=>a.add (l*sz)) (n - l) sz (cs.drop (l*sz)):=by
 refine⟨by rw [List.length_drop,h.1,Nat.sub_mul],fun h0=>?_⟩
 obtain ⟨b,off,arr,T,e1,e2,e3⟩:=h.2 (by omega)
 subst e1
 rw [if_neg (by omega)]
 refine⟨b,off+l*sz,arr,T,by rw [Option.map_some,VE],e2,fun j u hu=>?_⟩
 rw [Nat.add_assoc]
 rw [List.getElem?_drop] at hu
 exact e3 _ u hu
def Xh0 (P:List Tm) (i:Nat) (k:List Int):Bool:=decide (i<P.length)&&decide ((el P i).2=k)
def plJ (P:List Tm) (i:Nat) (k:List Int):Nat:=if Xh0 P i k=true then i+1 else i
def plS (P:List Tm) (i:Nat) (t:Tm):Rat:=if Xh0 P i t.2=true then(el P i).1+t.1 else t.1
theorem Xjk (t:Tm):∀ {P:List Tm} {i:Nat},i≤P.length→(∀ x∈P.take i,before x.2 t.2=true)→(i<P.length→before (el P i).2 t.2=false) →
  ZY P t=P.take i++(if plS P i t=0 then [] else [(plS P i t,t.2)])++P.drop (plJ P i t.2)
 |[],i,h,_,_=>by
  obtain rfl:i=0:=by simpa using h
  simp [ZY,plS,plJ,Xh0]
 |y::P,0,_,_,h=>by
  have hb:before y.2 t.2=false:=h (by simp)
  have e1:el (y::P) 0=y:=rfl
  unfold ZY plS plJ Xh0
  rw [e1,if_neg (by rw [hb];decide)]
  by_cases e:y.2=t.2
  ·simp [e]
   split<;>rfl
  ·simp [e]
   split<;>rfl
 |y::P,i+1,hi,h1,h2=>by
  have e1:el (y::P) (i+1)=el P i:=rfl
  have ih:=Xjk t (P:=P) (i:=i) (by simpa using hi) (fun x hx=>h1 x (by simp [hx])) (fun h=>by have:=h2 (by simp;omega);rwa [e1] at this)
  have hb:=h1 y (by simp)
  have es:Xh0 (y::P) (i+1) t.2=Xh0 P i t.2:=by unfold Xh0;rw [e1];simp
  have eS:plS (y::P) (i+1) t=plS P i t:=by unfold plS;rw [es,e1]
  have eJ:plJ (y::P) (i+1) t.2=plJ P i t.2+1:=by unfold plJ;rw [es];split<;>rfl
  rw [eS,eJ]
  show ZY (y::P) t=(y::P.take i)++_++(y::P).drop (plJ P i t.2+1)
  rw [List.drop_succ_cons]
  unfold ZY
  rw [if_pos hb,ih]
  simp
theorem Xjh {q:Option Addr} {c l sz:Nat} (h:(if c=l then q else q.map fun a=>a.add (l*sz))=none):q=none:=by
 split at h
 ·exact h
 ·simpa using h
theorem Xid (P:List Tm):(Da P).length=P.length:=by simp [Da]
theorem Xi4 {ps:List GA} {P:List Tm} (h:XB ps=Da P):ps.length=P.length:=by
 have:=congrArg List.length h
 rwa [GU,Xid] at this
theorem Xiq {ps:List GA} {P:List Tm} (h:XB ps=Da P) {i:Nat} (hi:i<ps.length):(el ps i).f=JQ (el P i).1∧(el ps i).k=(el P i).2:=by
 have hl:=Xi4 h
 have h1:(XB ps)[i]?=(Da P)[i]?:=by rw [h]
 unfold XB Da at h1
 rw [List.getElem?_map,List.getElem?_map,List.getElem?_eq_getElem hi,List.getElem?_eq_getElem (show i<P.length by omega)] at h1
 simp only [Option.map_some,Option.some.injEq,Prod.mk.injEq] at h1
 rw [Za hi,Za (show i<P.length by omega)];exact h1
theorem Xjg (r:Rat):(JQ r==[48])=decide (r=0):=by
 rw [Bool.eq_iff_iff,beq_iff_eq,decide_eq_true_eq]
 constructor
 ·intro h
  have e:JQ (0:Rat)=[48]:=by decide +kernel
  have h1:=congrArg Ju (h.trans e.symm)
  rwa [Xc5,Xc5] at h1
 ·rintro rfl;decide +kernel
structure PlJ (ps:List GA) (P:List Tm) (k:List Int) where
 i:Nat
 v:Value
 ob:List (Nat×Obj)
 le:i≤ps.length
 hr:Q3 122 2 v i ((ps.take i).flatMap WQ) ob
 hb:∀ x∈P.take i,before x.2 k=true
structure PlE (ps:List GA) (P:List Tm) (k:List Int) extends PlJ ps P k where
 stop:i<P.length→before (el P i).2 k=false
theorem Xjr {P:List Tm} {i:Nat} {k:List Int} (h:i<P.length) (hb:∀ x∈P.take i,before x.2 k=true) (e:before (el P i).2 k=true):∀ x∈P.take (i+1),before x.2 k=true:=by
 intro x hx
 rw [ZD h] at hx
 rcases List.mem_append.1 hx with hx | hx
 ·exact hb x hx
 ·rw [List.mem_singleton.1 hx];exact e
theorem Xim {l:List GA}:∀ v∈l.flatMap WQ,v.oneCell'=true:=by
 intro v hv
 obtain ⟨t,_,h⟩:=List.mem_flatMap.1 hv
 exact qY t v h
theorem Xib (l:List GA):(l.flatMap WQ).length=l.length*2:=by
 induction l with
 |nil=>rfl
 |cons t l ih=>rw [List.flatMap_cons,List.length_append,ih,List.length_cons,VY];omega
theorem Xj1 (l:List GA) (j:Nat):(l.flatMap WQ).drop (j*2)=(l.drop j).flatMap WQ:=by
 induction l generalizing j with
 |nil=>simp
 |cons t l ih =>
  cases j with
  |zero=>simp
  |succ j =>
   rw [List.drop_succ_cons,← ih j,List.flatMap_cons,show(j+1)*2=2+j*2 by omega,← List.drop_drop]
   rfl
theorem Xi9 (a b:List GA):XB (a++b)=XB a++XB b:=by simp [XB]
theorem Xga (a b:List Tm):Da (a++b)=Da a++Da b:=by simp [Da]
theorem Xl3 (a:List GA) (i:Nat):XB (a.take i)=(XB a).take i:=by simp [XB]
theorem Xjs (a:List Tm) (i:Nat):Da (a.take i)=(Da a).take i:=by simp [Da]
theorem Xl4 (a:List GA) (i:Nat):XB (a.drop i)=(XB a).drop i:=by simp [XB]
theorem Xjt (a:List Tm) (i:Nat):Da (a.drop i)=(Da a).drop i:=by simp [Da]
theorem Xkj {w:World} {F:Gs} {q:Option Addr} {n cap:Nat} {ps:List GA} {r:Sr} {k:List Int} {y:Rat} {P:List Tm} (hF:Fits F w) (hR:Q9 F q n 2 (ps.flatMap WQ)) (hA:Yc F ps) (hn:ps.length=n) (hcap:n≤cap) (hK:JP F r k) (hP:XB ps=Da P) (hz:∀ t∈P,JL t.1≤100000) (hy:JL y≤100000) (hw:∀ t∈P,t.2.length=k.length∧PW t.2) (hk:PW k) (hl:n≤1000000) :
  QS Tryz.prog 159 [.slice q n cap,.agg #[tx (JQ y),.slice r.q r.n r.cap]] w F (fun(c:Ku)=>c.1.v) (fun c F=>VK F c.1 c.2 (Da (ZY P (y,k)))):=by
 have hPl:=Xi4 hP
 have hRJ0:=hR.Xjn
 have hk0:=hK.1.Xjn
 have hkl:=hK.2.1
 have hk2:=hk.2
 refine QS.intro (G:=fun F=>Q9 F q n 2 (ps.flatMap WQ)∧Yc F ps∧JP F r k) Tryz.func159 rfl (by rfl) rfl rfl hF (fun F' hF'=>⟨hR.le hF',hA.le hF',hK.le hF'⟩)<|J_sr<|Qw rfl (vs:=[_,_]) rfl (fun b3=>JS_as rfl<|JS_nt<|QG<|NQ (b:=b3) .here<|QB<|JS_as rfl<|JS_nt<|J_sr<|JS_as rfl<|QE<|QC ?_)
 refine T3 (ι:=PlE ps P k) [(0,_),(3,_)] (fun x=>[(5,x.v),(6,.int .i64 ((x.i:Nat):Int))]) (fun x=>x.ob) (fun x F=>True) ⟨rfl,rfl,trivial⟩ ?_ ?_
 ·
  refine Qa<|Jz (ι:=PlJ ps P k) [(0,_),(3,_)] (fun i=>[(5,i.v),(6,.int .i64 ((i.i:Nat):Int))]) (fun i=>i.ob) (fun i F=>True) (fun i=>ps.length - i.i) (⟨0,_,[],Nat.zero_le _,.nil,by simp⟩) ⟨rfl,rfl,trivial⟩ ⟨rfl,rfl,trivial⟩ subl_r (fun _ _=>trivial) (fun i=>?_)
  simp only [List.cons_append,List.nil_append]
  have hi:=i.le
  refine QG<|QG<|JN subl_r mixed (by kernel_rfl)<|QK (QD rfl)<|QK (QD rfl)<|QK (Ql rfl Zh)<|QK (QV rfl rfl rfl)<|QK (QD rfl) ?_
  refine Bl (t:=12) rfl (fun hb12=>?_) (fun hb12=>?_)
  ·
   have hlt:i.i<ps.length:=by have:=dec_t hb12;omega
   have htm:=Jc hlt
   obtain ⟨ef,ek⟩:=Xiq hP hlt
   have hPm:=Jc (show i.i<P.length by omega)
   obtain ⟨hwl,hwp⟩:=hw _ hPm
   refine Jw rfl rfl<|QK (QD rfl)<|Jw rfl rfl<|QK (QD rfl)<|Jw rfl rfl<|QK (Ja (n:=n) (i.i) (fun F ⟨⟨⟨hR,hA,hK⟩,hz3⟩,_⟩=>hR) rfl rfl Zh Xr (by omega))<|Jw rfl rfl<|QK (QH rfl WI Qz)<|Jw rfl rfl<|QK (Jk (n:=n) ((i.i)*2+1) (fun F ⟨⟨⟨hR,hA,hK⟩,hz3⟩,_⟩=>hR) (by omega) rfl Qz (XM (f:=WQ) (l:=ps) VY (by omega) rfl))<|Jw rfl rfl<|QK (QH rfl WI Qz)<|Jw rfl rfl<|QK (Jk (n:=1) ((0)*2+1) (fun F ⟨⟨⟨hR,hA,hK⟩,hz3⟩,_⟩=>(Q9.of (n:=1) (sz:=2) hz3 rfl)) (by omega) rfl Qz rfl)<|Jw rfl rfl<|QY rfl (fun w F hF ⟨⟨⟨hR,hA,hK⟩,hz3⟩,_⟩=>Xix hF (hA _ htm) hK (by rw [ek];exact hwp) hk (by rw [ek];exact hwl)) (fun _=>?_)
   rw [ek]
   refine QK (Qi rfl rfl rfl)<|Q4<|QC ?_
   refine QR rfl (fun hc=>?_) (fun hc=>?_)
   ·
    refine QP<|QC<|Qa<|J_sr<|JS_mv rfl<|JS_mv rfl<|JS_mv rfl<|QA (Ja (n:=n) (i.i) (fun F ⟨⟨⟨⟨hR,hA,hK⟩,hz3⟩,_⟩,_⟩=>hR) rfl rfl Zh Xr (by omega))<|QA (X2 (n:=n) (vs:=[tx (el ps (i.i)).f,.slice (el ps (i.i)).r.q (el ps (i.i)).r.n (el ps (i.i)).r.cap]) ((i.i)*2) (fun F ⟨⟨⟨⟨hR,hA,hK⟩,hz3⟩,_⟩,_⟩=>hR) (by omega) rfl Xr rfl (fun j v hv=>XM (f:=WQ) (l:=ps) VY (by omega) hv))<|QU rfl (Q6 Zh) Xr Xe rfl rfl (fun b27=>?_)
    refine VI (bs1:=[]) (ob:=i.ob) (n:=i.i) (k:=1) (sz:=2) (news:=WQ (el ps i.i)) rfl rfl Zh Xr Xe rfl x3 i.hr (Src.row (off:=0) (fun F ⟨⟨⟨⟨⟨hR,hA,hK⟩,hz3⟩,_⟩,_⟩,hs27⟩=>hs27) (fun j v hv=>by rw [Nat.zero_add];show((WQ (el ps i.i)).toArray)[j]?=some v;rw [List.getElem?_toArray];exact hv) rfl) (by omega) (by omega) (qY _) (fun v28 ob28 hr28=>?_)
    rw [show(ps.take i.i).flatMap WQ++WQ (el ps i.i)=(ps.take (i.i+1)).flatMap WQ from by rw [ZD hlt,List.flatMap_append];simp] at hr28
    refine JS_as rfl<|JS_nt<|QB<|JS_mv rfl<|QA (Qu rfl rfl (by omega))<|JS_as rfl<|QE<|Qk ?_
    exact Qo (⟨i.i+1,v28,ob28,hlt,hr28,Xjr (by omega) i.hb hc⟩) (by show ps.length - (i.i+1)<ps.length - i.i;omega) ⟨rfl,rfl,rfl,rfl,trivial⟩ subl_r (fun F h=>⟨h.1.1.1,trivial⟩)
   ·
    refine Q5 ?_
    repeat (first | refine Qd ?_ | refine QW (by rfl) ?_)
    refine Qe ?_
    exact Jt (⟨i,fun _=>hc⟩) ⟨rfl,rfl,rfl,rfl,trivial⟩ subl_r (fun F ⟨⟨⟨⟨hR,hA,hK⟩,hz3⟩,_⟩,_⟩=>⟨⟨⟨hR,hA,hK⟩,hz3⟩,trivial⟩)
  ·
   have hge:i.i=ps.length:=by have:=dec_f hb12;omega
   refine Js rfl rfl rfl<|Js rfl rfl rfl<|Js rfl rfl rfl<|Js rfl rfl rfl<|Js rfl rfl rfl<|Js rfl rfl rfl<|Js rfl rfl rfl<|Js rfl rfl rfl<|QK (Qh rfl rfl rfl)<|Q4<|QC<|Z8 rfl<|Q5 ?_
   repeat (first | refine Qd ?_ | refine QW (by rfl) ?_)
   refine Qe ?_
   exact Jt (⟨i,fun h=>absurd h (by omega)⟩) ⟨rfl,rfl,rfl,rfl,trivial⟩ subl_r (fun F ⟨⟨⟨hR,hA,hK⟩,hz3⟩,_⟩=>⟨⟨⟨hR,hA,hK⟩,hz3⟩,trivial⟩)
 ·intro x
  simp only [List.cons_append,List.nil_append]
  have hi:=x.le
  refine J_sr<|QA (QH rfl BS JR)<|QA (Jk (n:=1) ((0)*2+0) (fun F ⟨⟨⟨hR,hA,hK⟩,hz3⟩,_⟩=>(Q9.of (n:=1) (sz:=2) hz3 rfl)) (by omega) rfl JR rfl)<|JS_as rfl<|QE<|QC ?_
  refine KZ [(0,_),(3,_),(5,_)] [(6,.int .i64 (((plJ P x.i k):Nat):Int)),(7,tx (JQ (plS P x.i (y,k))))] ⟨rfl,rfl,rfl,trivial⟩ ?_ ?_
  ·
   refine QG<|JN subl_r mixed (by kernel_rfl)<|QK (QD rfl)<|QK (QD rfl)<|QK (Ql rfl Zh)<|QK (QV rfl rfl rfl)<|QK (QD rfl) ?_
   refine Bl (t:=37) rfl (fun hb37=>?_) (fun hb37=>?_)
   ·
    have hlt:x.i<ps.length:=by have:=dec_t hb37;omega
    have htm:=Jc hlt
    obtain ⟨ef,ek⟩:=Xiq hP hlt
    have hPm:=Jc (show x.i<P.length by omega)
    obtain ⟨hwl,hwp⟩:=hw _ hPm
    refine Jw rfl rfl<|QK (QD rfl)<|Jw rfl rfl<|QK (QD rfl)<|Jw rfl rfl<|QK (Ja (n:=n) (x.i) (fun F ⟨⟨⟨hR,hA,hK⟩,hz3⟩,_⟩=>hR) rfl rfl Zh Xr (by omega))<|Jw rfl rfl<|QK (QH rfl WI Qz)<|Jw rfl rfl<|QK (Jk (n:=n) ((x.i)*2+1) (fun F ⟨⟨⟨hR,hA,hK⟩,hz3⟩,_⟩=>hR) (by omega) rfl Qz (XM (f:=WQ) (l:=ps) VY (by omega) rfl))<|Jw rfl rfl<|QK (QH rfl WI Qz)<|Jw rfl rfl<|QK (Jk (n:=1) ((0)*2+1) (fun F ⟨⟨⟨hR,hA,hK⟩,hz3⟩,_⟩=>(Q9.of (n:=1) (sz:=2) hz3 rfl)) (by omega) rfl Qz rfl)<|Jw rfl rfl<|QY rfl (fun w F hF ⟨⟨⟨hR,hA,hK⟩,hz3⟩,_⟩=>Sj hF (hA _ htm) hK (by rw [ek];have:=hwp.2;omega)) (fun _=>?_)
    rw [ek]
    refine QK (Qi rfl rfl rfl)<|Q4<|QC ?_
    refine QR rfl (fun hc=>?_) (fun hc=>?_)
    ·
     refine QG<|JN subl_r mixed (by kernel_rfl)<|QK (QD rfl)<|QK (QD rfl)<|QK (Ja (n:=n) (x.i) (fun F ⟨⟨⟨⟨hR,hA,hK⟩,hz3⟩,_⟩,_⟩=>hR) rfl rfl Zh Xr (by omega))<|QK (QH rfl BS JR)<|QK (Jk (n:=n) ((x.i)*2+0) (fun F ⟨⟨⟨⟨hR,hA,hK⟩,hz3⟩,_⟩,_⟩=>hR) (by omega) rfl JR (XM (f:=WQ) (l:=ps) VY (by omega) rfl))<|QK (QH rfl BS JR)<|QK (Jk (n:=1) ((0)*2+0) (fun F ⟨⟨⟨⟨hR,hA,hK⟩,hz3⟩,_⟩,_⟩=>(Q9.of (n:=1) (sz:=2) hz3 rfl)) (by omega) rfl JR rfl) ?_
     rw [ef]
     refine QY rfl (fun w F hF ⟨⟨⟨⟨hR,hA,hK⟩,hz3⟩,_⟩,_⟩=>xG hF (hz _ hPm) hy) (fun _=>QK (QF rfl)<|Q4<|QC<|QB<|JS_mv rfl<|QA (Qu rfl rfl (by omega))<|JS_as rfl<|QE ?_)
     have hs:Xh0 P x.i k=true:=by unfold Xh0;rw [hc,decide_eq_true (show x.i<P.length by omega)];rfl
     exact X0 ⟨rfl,rfl,rfl,(congrArg (fun z:Int=>some (Value.int .i64 z)) (by unfold plJ;rw [if_pos hs];omega)),(congrArg (fun r:Rat=>some (tx (JQ r))) (by unfold plS;rw [if_pos hs])),trivial⟩ subl_r (fun _ h=>h.1.1)
    ·
     refine QP ?_
     have hs:¬ Xh0 P x.i k=true:=by unfold Xh0;rw [hc,Bool.and_false];decide
     exact X0 ⟨rfl,rfl,rfl,(congrArg (fun z:Nat=>some (Value.int .i64 (z:Int))) (by unfold plJ;rw [if_neg hs])),(congrArg (fun r:Rat=>some (tx (JQ r))) (by unfold plS;rw [if_neg hs])),trivial⟩ subl_r (fun _ h=>h.1)
   ·
    have hge:x.i=ps.length:=by have:=dec_f hb37;omega
    refine Js rfl rfl rfl<|Js rfl rfl rfl<|Js rfl rfl rfl<|Js rfl rfl rfl<|Js rfl rfl rfl<|Js rfl rfl rfl<|Js rfl rfl rfl<|Js rfl rfl rfl<|QK (Qh rfl rfl rfl)<|Q4<|QC<|Z8 rfl<|QP ?_
    have hs:¬ Xh0 P x.i k=true:=by unfold Xh0;rw [decide_eq_false (show ¬ x.i<P.length by omega),Bool.false_and];decide
    exact X0 ⟨rfl,rfl,rfl,(congrArg (fun z:Nat=>some (Value.int .i64 (z:Int))) (by unfold plJ;rw [if_neg hs])),(congrArg (fun r:Rat=>some (tx (JQ r))) (by unfold plS;rw [if_neg hs])),trivial⟩ subl_r (fun _ h=>h)
  ·
   simp only [List.cons_append,List.nil_append]
   have hJ:x.i≤(plJ P x.i k)∧(plJ P x.i k)≤n:=by
    unfold plJ;split
    ·rename_i hs;unfold Xh0 at hs;rw [Bool.and_eq_true,decide_eq_true_eq] at hs;omega
    ·omega
   have hpl:=Xjk (y,k) (P:=P) (i:=x.i) (by omega) x.hb x.stop
   have hat:XB (ps.take x.i)=Da (P.take x.i):=by rw [Xl3,hP,Xjs]
   have hdr:XB (ps.drop (plJ P x.i k))=Da (P.drop (plJ P x.i k)):=by rw [Xl4,hP,Xjt]
   have htl:(ps.take x.i).length=x.i:=by rw [List.length_take];omega
   refine QG<|J_sr<|JS_mv rfl<|QI rfl (fun w F hF ⟨⟨⟨hR,hA,hK⟩,hz3⟩,_⟩=>Xk5 hF) (fun _=>QA (Yt rfl)<|QE<|QC ?_)
   refine QR rfl (fun hc=>?_) (fun hc=>?_)
   ·
    have hs0:(plS P x.i (y,k))≠0:=by rw [Xjg] at hc;simpa using hc
    refine QB<|JS_mv rfl<|JS_mv rfl<|W8 (Q6 Qf) Qp (fun b62=>QA (QH rfl WI Qz)<|QA (Jk (n:=1) ((0)*2+1) (fun F ⟨⟨⟨⟨hR,hA,hK⟩,hz3⟩,_⟩,_⟩=>(Q9.of (n:=1) (sz:=2) hz3 rfl)) (by omega) rfl Qz rfl)<|X7 (bs':=x.ob++[(b62,.cells ([]++[]:List Value).toArray 3 (0,0))]) (List.perm_append_comm (l₁:=[_]))<|VI (ob:=[(b62,.cells ([]++[]:List Value).toArray 3 (0,0))]) (n:=0) (k:=r.n) (sz:=1) (news:=k.map Qx) rfl rfl Qf Qp VQ rfl DF (.some rfl rfl (Nat.le_refl _) (by decide)) (Src.Xk9 hk0 (fun F ⟨⟨⟨⟨hR,hA,hK⟩,hz3⟩,_⟩,_⟩=>hK.1) (by simp [hkl])) (by omega) (by omega) (qE k) (fun v65 ob65 hr65=>?_))
    rw [Nat.zero_add,List.nil_append] at hr65
    obtain ⟨r65,hv65,hn65,hc65,hfix65⟩:=Q3.fix (w0:=w) (F0:=F) (bs1:=x.ob) (G:=_) hr65
    refine DN hfix65 ?_
    rw [hv65]
    dsimp only [Sr.v]
    refine QA (Qy rfl ZH Xe (.cons (vs:=[_]) rfl rfl rfl (.here .nil) (.cons (vs:=[_]) rfl rfl rfl (.skip (.here .nil)) .nil)))<|QU rfl (Q6 Zh) Xr Xe rfl rfl (fun b67=>?_)
    refine VI (bs1:=[]) (ob:=x.ob) (n:=x.i) (k:=1) (sz:=2) (news:=WQ (⟨JQ (plS P x.i (y,k)),r65,k⟩:GA)) rfl rfl Zh Xr Xe rfl x3 x.hr (Src.row (off:=0) (fun F ⟨⟨⟨⟨⟨⟨hR,hA,hK⟩,hz3⟩,_⟩,_⟩,hrow65⟩,hs67⟩=>hs67) (fun j v hv=>by rw [Nat.zero_add];show((WQ (⟨JQ (plS P x.i (y,k)),r65,k⟩:GA)).toArray)[j]?=some v;rw [List.getElem?_toArray];exact hv) rfl) (by omega) (by omega) (qY _) (fun v68 ob68 hr68=>?_)
    refine JS_as rfl<|JS_nt<|J_sr<|JS_mv rfl<|JS_mv rfl<|JS_mv rfl<|QA (Xji (plJ P x.i k) rfl rfl rfl Zh Xr hJ.2 hcap)<|VI (bs1:=[]) (ob:=ob68) (n:=(x.i+1)) (k:=n - (plJ P x.i k)) (sz:=2) (news:=(ps.drop (plJ P x.i k)).flatMap WQ) rfl rfl Zh Xr Xe rfl x3 hr68 (Src.Xk9 (fun e=>by have:=hRJ0 (Xjh e);omega) (fun F ⟨⟨⟨⟨⟨⟨hR,hA,hK⟩,hz3⟩,_⟩,_⟩,hrow65⟩,hs67⟩=>by have:=hR.drop hcap (plJ P x.i k);rwa [Xj1] at this) (by rw [Xib,List.length_drop,hn])) (by omega) (by omega) Xim (fun v73 ob73 hr73=>?_)
    obtain ⟨rr,hv73,hrn,hrc,hfix⟩:=Q3.fix (w0:=w) (F0:=F) (bs1:=[]) (G:=_) hr73
    refine DN hfix ?_
    rw [hv73]
    refine JS_as rfl<|JS_nt<|QT ?_
    exact QQ ((rr,(ps.take x.i++[(⟨JQ (plS P x.i (y,k)),r65,k⟩:GA)]++ps.drop (plJ P x.i k)))) rfl (.tmp rfl .nil) (rfl) (fun F ⟨⟨⟨⟨⟨⟨⟨hR,hA,hK⟩,hz3⟩,_⟩,_⟩,hrow65⟩,hs67⟩,hrow⟩=>⟨by rw [hrn];rw [show(ps.take x.i).flatMap WQ++WQ (⟨JQ (plS P x.i (y,k)),r65,k⟩:GA)++(ps.drop (plJ P x.i k)).flatMap WQ=(ps.take x.i++[(⟨JQ (plS P x.i (y,k)),r65,k⟩:GA)]++ps.drop (plJ P x.i k)).flatMap WQ from by rw [List.flatMap_append,List.flatMap_append];simp] at hrow;exact hrow,
   fun t ht=>by
    rcases List.mem_append.1 ht with ht | ht
    ·rcases List.mem_append.1 ht with ht | ht
     ·exact hA t (List.mem_of_mem_take ht)
     ·rw [List.mem_singleton.1 ht];exact⟨by rw [hn65];exact hrow65,by rw [hn65];exact hkl,by rw [hn65];exact hc65⟩
    ·exact hA t (List.mem_of_mem_drop ht),
   by rw [hpl,if_neg hs0,Xi9,Xi9,Xga,Xga,hat,hdr];rfl,by rw [hrn];exact hrc,by rw [hrn,List.length_append,List.length_append,htl,List.length_drop,hn];rfl⟩)
   ·
    have hs0:(plS P x.i (y,k))=0:=by rw [Xjg] at hc;simpa using hc
    refine QP<|QC<|J_sr<|JS_mv rfl<|JS_mv rfl<|JS_mv rfl<|QA (Xji (plJ P x.i k) rfl rfl rfl Zh Xr hJ.2 hcap)<|VI (bs1:=[]) (ob:=x.ob) (n:=x.i) (k:=n - (plJ P x.i k)) (sz:=2) (news:=(ps.drop (plJ P x.i k)).flatMap WQ) rfl rfl Zh Xr Xe rfl x3 x.hr (Src.Xk9 (fun e=>by have:=hRJ0 (Xjh e);omega) (fun F ⟨⟨⟨⟨hR,hA,hK⟩,hz3⟩,_⟩,_⟩=>by have:=hR.drop hcap (plJ P x.i k);rwa [Xj1] at this) (by rw [Xib,List.length_drop,hn])) (by omega) (by omega) Xim (fun v73 ob73 hr73=>?_)
    obtain ⟨rr,hv73,hrn,hrc,hfix⟩:=Q3.fix (w0:=w) (F0:=F) (bs1:=[]) (G:=_) hr73
    refine DN hfix ?_
    rw [hv73]
    refine JS_as rfl<|JS_nt<|QT ?_
    exact QQ ((rr,(ps.take x.i++ps.drop (plJ P x.i k)))) rfl (.tmp rfl .nil) (rfl) (fun F ⟨⟨⟨⟨⟨hR,hA,hK⟩,hz3⟩,_⟩,_⟩,hrow⟩=>⟨by rw [hrn];rw [← List.flatMap_append] at hrow;exact hrow,
   fun t ht=>by
    rcases List.mem_append.1 ht with ht | ht
    ·exact hA t (List.mem_of_mem_take ht)
    ·exact hA t (List.mem_of_mem_drop ht),
   by rw [hpl,if_pos hs0,Xi9,List.append_nil,Xga,hat,hdr],by rw [hrn];exact hrc,by rw [hrn,List.length_append,htl,List.length_drop,hn]⟩)
end
section
open Go.RowKit Ig
section
variable [Dr] [df:Df] {P:Program} {Q:Exit→Act→World→Prop} {N:Nat} {m:Sl} {ops:Array Oper} {l:List Oper} {w0:World} {F0:Gs} {bs:List (Nat×Obj)} {G:Gs→Prop} {ty:TypeId}
theorem Xie {t u e e2:TypeId} {x y:Value} {w:World} (hx:∃ b n c,x = .slice b n c) (ht:Hp P t=some e) (hu:Hp P u=some e2):(Builtin.append_ #[t,u] ty #[x,y]).run P w=(Builtin.append_ #[t,t] ty #[x,y]).run P w:=by
 obtain ⟨b,n,c,rfl⟩:=hx
 simp [Builtin.append_,run_underlying (Q6 ht),run_underlying (Q6 hu)]
theorem Xiu {d:Nat} {pos:String} {aft:Array Edge} {t u e e2:TypeId} {sz bytes n k:Nat} {z:List Value} {g:Bool} {X Y:Operand} {x y:Value} {olds news:List Value} {ob:List (Nat×Obj)} (hx:ev m X=some x) (hy:ev m Y=some y) (ht:Hp P t=some e) (hu2:Hp P u=some e2) (hs:Z9 P e=some (g,sz)) (hz:XG P e=some z) (hzl:z.length=sz) (hby:YM P e=some bytes)
  (hr:Q3 e sz x n olds ob) (hs2:Src ⟨w0,F0,ob++bs,G⟩ sz y k news) (h63:n+k≤9223372036854775807) (h47:(n+k)*bytes≤140737488355328) (h1:∀ v∈news,v.oneCell'=true)
  (kk:∀ v' ob',Q3 e sz v' (n+k) (olds++news) ob'→JS P ops Q l N ((d,v')::m) ⟨w0,F0,ob'++bs,G⟩) (hu:WC e=true:=by rfl) (hd:J0 N (some d)=true:=by rfl) :
  JS P ops Q (⟨some d,.call ⟨.builtin .append,#[X,Y],#[t,u]⟩,ty,pos,aft,none⟩::l) N m ⟨w0,F0,ob++bs,G⟩:=fun a w ha hw =>
 wpList_plain rfl fun K hK=>by
  have hxs:∃ b n c,x = .slice b n c:=by
   cases hr
   ·exact⟨_,_,_,rfl⟩
   ·exact⟨_,_,_,rfl⟩
  obtain ⟨v',ob',w',h2,h3,h4⟩:=Gm (ty:=ty) ht hs hz hzl hby hr hs2 hw h63 h47 h1 hu
  refine upon_value (w':=w') (v:=v') ?_ (hK _ _ (kk v' ob' h3 _ w' (ha.put hd v') h4))
  rw [YQ]
  simp [builtin,ha.ev hx,ha.ev hy,Xie hxs ht hu2,h2]
end
theorem VK.Xlx {F:Gs} {s:Sr} {ts:List GA} {L:List Tm} (h:VK F s ts (Da L)):s.n=L.length:=by
 rw [← h.2.2.2.2];exact Xi4 h.2.2.1
theorem Xk0 {L:List Tm} {i:Nat} (h:i<L.length):XC (L.take (i+1))=ZY (XC (L.take i)) (el L i):=by
 rw [ZD h];unfold XC;rw [List.foldl_append];rfl
structure NoJ (n:Nat) where
 i:Nat
 c:Ku
 le:i≤n
structure OtJ (g:List Tm→List Tm) (L:List Tm) where
 i:Nat
 v:Value
 ob:List (Nat×Obj)
 out:List GA
 le:i≤L.length
 hr:Q3 122 2 v out.length (out.flatMap WQ) ob
 ho:XB out=Da (g (L.take i))
 hl:out.length≤i
def Xi7 (y:Rat) (l:List Tm):List Tm:=l.map fun t=>(y*t.1,t.2)
theorem Xk8 {y:Rat} {L:List Tm} {i:Nat} (h:i<L.length):Xi7 y (L.take (i+1))=Xi7 y (L.take i)++[(y*(el L i).1,(el L i).2)]:=by
 rw [ZD h];unfold Xi7;rw [List.map_append];rfl
theorem Xj2 {v:Nat} {L:List Tm} {i:Nat} (h:i<L.length):KS v (L.take (i+1))=KS v (L.take i)++AD v (el L i):=by
 rw [ZD h];unfold KS;rw [List.flatMap_append];simp
theorem Xj0 (o:List GA) (t:GA):o.flatMap WQ++WQ t=(o++[t]).flatMap WQ:=by rw [List.flatMap_append];simp
theorem Yc.snoc {F:Gs} {o:List GA} {t:GA} (h:Yc F o) (k:JP F t.r t.k):Yc F (o++[t]):=fun x hx=>by
 rcases List.mem_append.1 hx with hx | hx
 ·exact h x hx
 ·rw [List.mem_singleton.1 hx];exact k
theorem Xjw {l:List Tm} {t:Tm} (h:t∈l):JL t.1+1≤Zb l:=by
 unfold Zb
 induction l with
 |nil=>cases h
 |cons x l ih =>
  rw [List.map_cons,List.sum_cons]
  rcases List.mem_cons.1 h with rfl | h
  ·omega
  ·have:=ih h;omega
theorem Xif {w:World} {F:Gs} {q:Option Addr} {n cap N:Nat} {ts:List GA} {L:List Tm} (hF:Fits F w) (hR:Q9 F q n 2 (ts.flatMap WQ)) (hA:Yc F ts) (hn:ts.length=n) (hT:XB ts=Da L) (hw:∀ t∈L,t.2.length=N∧PW t.2) (hz:Zb L≤90000) (hl:n≤100000) :
  QS Tryz.prog 65 [.slice q n cap] w F (fun(c:Ku)=>c.1.v) (fun c F=>VK F c.1 c.2 (Da (XC L))):=by
 have hLl:=Xi4 hT
 refine QS.intro (G:=fun F=>Q9 F q n 2 (ts.flatMap WQ)∧Yc F ts) Tryz.func65 rfl (by rfl) rfl rfl hF (fun F' hF'=>⟨hR.le hF',hA.le hF'⟩)<|J_sr<|JS_as rfl<|JS_nt<|J_sr<|JS_as rfl<|JS_nt<|QG<|J_sr<|JS_as rfl<|JS_nt<|Qa<|Jz (ι:=NoJ n) [(0,_)] (fun i=>[(3,i.c.1.v),(4,.int .i64 ((i.i:Nat):Int))]) (fun i=>[]) (fun i F=>VK F i.c.1 i.c.2 (Da (XC (L.take i.i)))) (fun i=>n - i.i) (⟨0,(⟨none,0,0⟩,[]),Nat.zero_le _⟩) ⟨rfl,trivial⟩ ⟨rfl,rfl,trivial⟩ subl_r (fun F _=>⟨Q9.nil F none 2,fun _ h=>(by cases h),rfl,Nat.le_refl _,rfl⟩) (fun i=>?_)
 simp only [List.cons_append,List.nil_append]
 have hi:=i.le
 refine QG<|J_sr<|JS_mv rfl<|JS_mv rfl<|QA (Ql rfl Xi6)<|QA (QV rfl rfl rfl)<|QE<|QC ?_
 refine QR rfl (fun hc=>?_) (fun hc=>?_)
 ·
  have hlt:i.i<n:=by have:=dec_t hc;omega
  have htm:=Jc (show i.i<ts.length by omega)
  obtain ⟨ef,ek⟩:=Xiq hT (show i.i<ts.length by omega)
  have hLm:=Jc (show i.i<L.length by omega)
  obtain ⟨hwl,hwp⟩:=hw _ hLm
  have hst:=I0 L i.i
  have hnl:=Vr (L.take i.i)
  rw [List.length_take] at hnl
  refine QP<|QC<|QG<|Qa<|QB<|JS_mv rfl<|JS_mv rfl<|JS_mv rfl<|QA (Ja (n:=n) (i.i) (fun F ⟨⟨hR,hA⟩,hC⟩=>hR) rfl rfl Xi6 Xr (by omega))<|QA (X2 (n:=n) (vs:=[tx (el ts (i.i)).f,.slice (el ts (i.i)).r.q (el ts (i.i)).r.n (el ts (i.i)).r.cap]) ((i.i)*2) (fun F ⟨⟨hR,hA⟩,hC⟩=>hR) (by omega) rfl Xr rfl (fun j v hv=>XM (f:=WQ) (l:=ts) VY (by omega) hv)) ?_
  rw [ef]
  refine QI rfl (fun w F hF ⟨⟨hR,hA⟩,hC⟩=>Xkj (k:=(el L i.i).2) hF hC.1 hC.2.1 hC.2.2.2.2 hC.2.2.2.1 (by rw [← ek];exact hA _ htm) hC.2.2.1 (fun t ht=>Nat.le_trans (Bt ht) (by omega)) (by have:=Xjw hLm;omega)
   (fun t ht=>by obtain ⟨y,hy,e⟩:=B6 ht;rw [← e,hwl];exact hw y (List.mem_of_mem_take hy)) hwp (by rw [hC.Xlx];omega)) (fun c16=>?_)
  refine JS_as rfl<|QE<|Qk<|QC<|QB<|JS_mv rfl<|QA (Qu rfl rfl (by omega))<|JS_as rfl<|QE ?_
  exact Qo (⟨i.i+1,c16,hlt⟩) (by show n - (i.i+1)<n - i.i;omega) ⟨rfl,rfl,rfl,trivial⟩ subl_r (fun F h=>⟨h.1.1,by rw [Xk0 (by omega)];exact h.2⟩)
 ·
  have hge:i.i=n:=by have:=dec_f hc;omega
  refine Q5 ?_
  repeat (first | refine Qd ?_ | refine QW (by rfl) ?_)
  refine Qe<|QC<|J_sr<|JS_mv rfl<|JS_as rfl<|JS_nt<|QT ?_
  exact QQ (i.c) rfl (.tmp rfl .nil) (rfl) (fun F ⟨⟨hR,hA⟩,hC⟩=>by have h:=hC;rwa [hge,show L.take n=L from List.take_of_length_le (by omega)] at h)
theorem Xjy {w:World} {F:Gs} {q q2:Option Addr} {n cap n2 cap2 N:Nat} {ps qs:List GA} {A B:List Tm} (hF:Fits F w) (hA:Q9 F q n 2 (ps.flatMap WQ)) (hAs:Yc F ps) (hna:ps.length=n) (hTa:XB ps=Da A) (hB:Q9 F q2 n2 2 (qs.flatMap WQ)) (hBs:Yc F qs) (hnb:qs.length=n2) (hTb:XB qs=Da B)
  (hw:∀ t∈A++B,t.2.length=N∧PW t.2) (hz:Zb (A++B)≤90000) (hl:n≤10000∧n2≤10000) :
  QS Tryz.prog 77 [.slice q n cap,.slice q2 n2 cap2] w F (fun(c:Ku)=>c.1.v) (fun c F=>VK F c.1 c.2 (Da (XC (A++B)))):=by
 have hA0:=hA.Xjn
 have hB0:=hB.Xjn
 refine QS.intro (G:=fun F=>Q9 F q n 2 (ps.flatMap WQ)∧Yc F ps∧Q9 F q2 n2 2 (qs.flatMap WQ)∧Yc F qs) Tryz.func77 rfl (by rfl) rfl rfl hF (fun F' hF'=>⟨hA.le hF',hAs.le hF',hB.le hF',hBs.le hF'⟩)<|J_sr<|JS_as rfl<|JS_nt<|J_sr<|W8 (Q6 Xi6) Xr (fun b5=>JS_mv rfl<|Xiu (ob:=[(b5,.cells ([]++[]:List Value).toArray 122 (0,0))]) (n:=0) (k:=n) (sz:=2) (news:=ps.flatMap WQ) rfl rfl Xi6 Zh Xr Xe rfl x3 (.some rfl rfl (Nat.le_refl _) (by decide)) (Src.Xk9 hA0 (fun F ⟨hA,hAs,hB,hBs⟩=>hA) (by rw [Xib];omega)) (by omega) (by omega) Xim (fun v7 ob7 hr7=>?_))
 rw [Nat.zero_add,List.nil_append] at hr7
 refine JS_mv rfl<|Xiu (ob:=ob7) (n:=n) (k:=n2) (sz:=2) (news:=qs.flatMap WQ) rfl rfl Xi6 Zh Xr Xe rfl x3 hr7 (Src.Xk9 hB0 (fun F ⟨hA,hAs,hB,hBs⟩=>hB) (by rw [Xib];omega)) (by omega) (by omega) Xim (fun v9 ob9 hr9=>?_)
 rw [List.append_nil,← List.append_nil ob9]
 obtain ⟨r,hv,hrn,hrc,hfix⟩:=Q3.fix (w0:=w) (F0:=F) (bs1:=[]) (G:=_) hr9
 rw [List.append_nil]
 refine DN hfix ?_
 rw [hv]
 refine QI rfl (fun w F hF ⟨⟨hA,hAs,hB,hBs⟩,hrow⟩=>Xif (N:=N) (ts:=ps++qs) (L:=A++B) hF (by rw [← List.flatMap_append] at hrow;rw [hrn];exact hrow) (fun t ht=>by
  rcases List.mem_append.1 ht with ht | ht
  ·exact hAs t ht
  ·exact hBs t ht) (by rw [List.length_append,hrn];omega) (by rw [Xi9,Xga,hTa,hTb]) hw hz (by omega)) (fun c10=>?_)
 refine JS_as rfl<|JS_nt<|QT ?_
 exact QQ (c10) rfl (.tmp rfl .nil) (rfl) (fun F ⟨⟨⟨hA,hAs,hB,hBs⟩,hrow⟩,h10⟩=>h10)
theorem Xj3 {w:World} {F:Gs} {q:Option Addr} {n cap N:Nat} {ps:List GA} {L:List Tm} {y:Rat} (hF:Fits F w) (hR:Q9 F q n 2 (ps.flatMap WQ)) (hA:Yc F ps) (hn:ps.length=n) (hT:XB ps=Da L) (hy:JL y≤100000) (hsz:∀ t∈L,JL t.1≤100000) (hw:∀ t∈Xi7 y L,t.2.length=N∧PW t.2) (hz:Zb (Xi7 y L)≤90000) (hl:n≤10000) :
  QS Tryz.prog 78 [tx (JQ y),.slice q n cap] w F (fun(c:Ku)=>c.1.v) (fun c F=>VK F c.1 c.2 (Da (XC (Xi7 y L)))):=by
 have hLl:=Xi4 hT
 refine QS.intro (G:=fun F=>Q9 F q n 2 (ps.flatMap WQ)∧Yc F ps) Tryz.func78 rfl (by rfl) rfl rfl hF (fun F' hF'=>⟨hR.le hF',hA.le hF'⟩)<|J_sr<|JS_as rfl<|JS_nt<|J_sr<|JS_as rfl<|JS_nt<|QG<|J_sr<|JS_as rfl<|JS_nt<|Qa<|Jz (ι:=OtJ (Xi7 y) L) [(0,_),(1,_)] (fun i=>[(5,i.v),(6,.int .i64 ((i.i:Nat):Int))]) (fun i=>i.ob) (fun i F=>Yc F i.out) (fun i=>L.length - i.i) (⟨0,_,[],[],Nat.zero_le _,.nil,rfl,Nat.le_refl _⟩) ⟨rfl,rfl,trivial⟩ ⟨rfl,rfl,trivial⟩ subl_r (fun _ _ _ h=>by cases h) (fun i=>?_)
 simp only [List.cons_append,List.nil_append]
 have hi:=i.le
 refine QG<|J_sr<|JS_mv rfl<|JS_mv rfl<|QA (Ql rfl Zh)<|QA (QV rfl rfl rfl)<|QE<|QC ?_
 refine QR rfl (fun hc=>?_) (fun hc=>?_)
 ·
  have hlt:i.i<L.length:=by have:=dec_t hc;omega
  have hlp:i.i<ps.length:=by omega
  have htm:=Jc hlp
  obtain ⟨ef,ek⟩:=Xiq hT hlp
  have hLm:=Jc hlt
  have hil:=i.hl
  refine QP<|QC<|QG<|Qa<|JN (List.nil_sublist _) mixed (by kernel_rfl)<|QK (QD rfl)<|QK (QD rfl)<|QK (QD rfl)<|QK (QD rfl)<|QK (Ja (n:=n) (i.i) (fun F ⟨⟨hR,hA⟩,hO⟩=>hR) rfl rfl Zh Xr (by omega))<|QK (QH rfl BS JR)<|QK (Jk (n:=n) ((i.i)*2+0) (fun F ⟨⟨hR,hA⟩,hO⟩=>hR) (by omega) rfl JR (XM (f:=WQ) (l:=ps) VY (by omega) rfl)) ?_
  rw [ef]
  refine QY rfl (fun w F hF ⟨⟨hR,hA⟩,hO⟩=>RI hF hy (hsz _ hLm)) (fun _=>QK (QD rfl)<|QK (QD rfl)<|QK (Ja (n:=n) (i.i) (fun F ⟨⟨hR,hA⟩,hO⟩=>hR) rfl rfl Zh Xr (by omega))<|QK (QH rfl WI Qz)<|QK (Jk (n:=n) ((i.i)*2+1) (fun F ⟨⟨hR,hA⟩,hO⟩=>hR) (by omega) rfl Qz (XM (f:=WQ) (l:=ps) VY (by omega) rfl))<|QK (Qy rfl ZH Xe (.cons (vs:=[_]) rfl rfl rfl (.here .nil) (.cons (vs:=[_]) rfl rfl rfl (.skip (.here .nil)) .nil))) ?_)
  refine Jp rfl (Q6 Xi6) Xr Xe rfl rfl (fun b27=>?_) (fun w h=>h.imp (List.nil_sublist _) (fun F h=>h.1))
  rw [← List.append_nil i.ob]
  refine DP (ob:=i.ob) (n:=i.out.length) (k:=1) (sz:=2) (news:=WQ (⟨JQ (y*(el L i.i).1),(el ps i.i).r,(el ps i.i).k⟩:GA)) rfl rfl Xi6 Xr Xe rfl x3 i.hr (Src.row (off:=0) (fun F ⟨⟨⟨⟨hR,hA⟩,hO⟩,_⟩,hs27⟩=>hs27) (fun j u hu=>by rw [Nat.zero_add];show((WQ (⟨JQ (y*(el L i.i).1),(el ps i.i).r,(el ps i.i).k⟩:GA)).toArray)[j]?=some u;rw [List.getElem?_toArray];exact hu) rfl) (by omega) (by omega) (qY _) subl_r (fun _ h=>h.1.1) (fun v28 ob28 hr28=>?_)
  rw [Xj0] at hr28
  refine QK (QF rfl)<|Q4<|Qk<|QC<|QB<|JS_mv rfl<|QA (Qu rfl rfl (by omega))<|JS_as rfl<|QE ?_
  exact Qo (⟨i.i+1,v28,ob28,i.out++[(⟨JQ (y*(el L i.i).1),(el ps i.i).r,(el ps i.i).k⟩:GA)],hlt,by rw [List.length_append];exact hr28,by rw [Xi9,i.ho,Xk8 hlt,Xga];show _++[(JQ (y*(el L i.i).1),(el ps i.i).k)]=_;rw [ek];rfl,by rw [List.length_append];simp;omega⟩) (by show L.length - (i.i+1)<L.length - i.i;omega) ⟨rfl,rfl,rfl,rfl,trivial⟩ (by rw [List.append_nil];exact List.Sublist.refl _) (fun F ⟨⟨⟨⟨hR,hA⟩,hO⟩,_⟩,hs27⟩=>⟨⟨hR,hA⟩,hO.snoc (show JP F (el ps i.i).r (el ps i.i).k from hA _ htm)⟩)
 ·
  have hge:i.i=L.length:=by have:=dec_f hc;omega
  have hil:=i.hl
  refine Q5 ?_
  repeat (first | refine Qd ?_ | refine QW (by rfl) ?_)
  refine Qe<|QC<|QG<|QB ?_
  obtain ⟨r,hv,hrn,hrc,hfix⟩:=Q3.fix (w0:=w) (F0:=F) (bs1:=[]) (G:=_) i.hr
  refine DN hfix ?_
  rw [hv]
  refine JS_mv rfl<|QI rfl (fun w F hF ⟨⟨⟨hR,hA⟩,hO⟩,hrow⟩=>Xif (N:=N) (ts:=i.out) (L:=Xi7 y L) hF (by rw [hrn];exact hrow) hO hrn.symm (by have h:=i.ho;rwa [hge,List.take_length] at h) hw hz (by omega)) (fun c30=>JS_as rfl<|JS_nt<|QT ?_)
  exact QQ (c30) rfl (.tmp rfl .nil) (rfl) (fun F ⟨⟨⟨⟨hR,hA⟩,hO⟩,hrow⟩,h30⟩=>h30)
theorem Xiv {w:World} {F:Gs} {q:Option Addr} {n cap N v:Nat} {ps:List GA} {L:List Tm} (hF:Fits F w) (hR:Q9 F q n 2 (ps.flatMap WQ)) (hA:Yc F ps) (hn:ps.length=n) (hT:XB ps=Da L) (hv:v<N) (hw0:∀ t∈L,t.2.length=N∧PW t.2) (hsz:∀ t∈L,JL t.1≤90000) (hw:∀ t∈KS v L,t.2.length=N∧PW t.2) (hz:Zb (KS v L)≤90000) (hl:n≤10000) :
  QS Tryz.prog 79 [.slice q n cap,.int .i64 (v:Nat)] w F (fun(c:Ku)=>c.1.v) (fun c F=>VK F c.1 c.2 (Da (XC (KS v L)))):=by
 have hLl:=Xi4 hT
 refine QS.intro (G:=fun F=>Q9 F q n 2 (ps.flatMap WQ)∧Yc F ps) Tryz.func79 rfl (by rfl) rfl rfl hF (fun F' hF'=>⟨hR.le hF',hA.le hF'⟩)<|J_sr<|JS_as rfl<|JS_nt<|J_sr<|JS_as rfl<|JS_nt<|QG<|J_sr<|JS_as rfl<|JS_nt<|Qa<|Jz (ι:=OtJ (KS v) L) [(0,_),(1,_)] (fun i=>[(5,i.v),(6,.int .i64 ((i.i:Nat):Int))]) (fun i=>i.ob) (fun i F=>Yc F i.out) (fun i=>L.length - i.i) (⟨0,_,[],[],Nat.zero_le _,.nil,rfl,Nat.le_refl _⟩) ⟨rfl,rfl,trivial⟩ ⟨rfl,rfl,trivial⟩ subl_r (fun _ _ _ h=>by cases h) (fun i=>?_)
 simp only [List.cons_append,List.nil_append]
 have hi:=i.le
 refine QG<|J_sr<|JS_mv rfl<|JS_mv rfl<|QA (Ql rfl Zh)<|QA (QV rfl rfl rfl)<|QE<|QC ?_
 refine QR rfl (fun hc=>?_) (fun hc=>?_)
 ·
  have hlt:i.i<L.length:=by have:=dec_t hc;omega
  have hlp:i.i<ps.length:=by omega
  have htm:=Jc hlp
  obtain ⟨ef,ek⟩:=Xiq hT hlp
  have hLm:=Jc hlt
  have hil:=i.hl
  obtain ⟨hwl,hwp⟩:=hw0 _ hLm
  have hkn:=(hA _ htm).2.1
  have hkl:(el ps i.i).k.length=N:=by rw [ek];exact hwl
  have hvn:v<(el ps i.i).r.n:=by omega
  have hk1:=hwp.2
  have hdb:0≤Qg (el ps i.i).k v∧Qg (el ps i.i).k v≤1000000:=by rw [ek];exact hwp.el (by omega)
  have hk0:=(hA _ htm).1.Xjn
  refine QP<|QC<|QG<|Qa<|J_sr<|JS_mv rfl<|JS_mv rfl<|QA (Ja (n:=n) (i.i) (fun F ⟨⟨hR,hA⟩,hO⟩=>hR) rfl rfl Zh Xr (by omega))<|QA (QH rfl WI Qz)<|QA (Jk (n:=n) ((i.i)*2+1) (fun F ⟨⟨hR,hA⟩,hO⟩=>hR) (by omega) rfl Qz (XM (f:=WQ) (l:=ps) VY (by omega) rfl))<|JS_mv rfl<|QA (Ja (n:=(el ps (i.i)).r.n) (v) (fun F ⟨⟨hR,hA⟩,hO⟩=>((hA _ htm)).1) rfl rfl Qf Qp (by omega))<|QA (Jk (n:=(el ps (i.i)).r.n) ((v)*1) (fun F ⟨⟨hR,hA⟩,hO⟩=>((hA _ htm)).1) (by omega) rfl Qp (JO (o:=(el ps (i.i)).k) (by omega)))<|JS_as rfl<|JS_nt<|J_sr<|JS_mv rfl<|QA (QV rfl rfl rfl)<|QE<|QC ?_
  refine QR rfl (fun hc=>?_) (fun hc=>?_)
  ·
   have hkp:=dec_t hc
   refine J_sr<|W8 (Q6 Qf) Qp (fun b25=>JS_mv rfl<|JS_mv rfl<|QA (Ja (n:=n) (i.i) (fun F ⟨⟨hR,hA⟩,hO⟩=>hR) rfl rfl Zh Xr (by omega))<|QA (QH rfl WI Qz)<|QA (Jk (n:=n) ((i.i)*2+1) (fun F ⟨⟨hR,hA⟩,hO⟩=>hR) (by omega) rfl Qz (XM (f:=WQ) (l:=ps) VY (by omega) rfl))<|X7 (bs':=i.ob++[(b25,.cells ([]++[]:List Value).toArray 3 (0,0))]) (List.perm_append_comm (l₁:=[_]))<|VI (ob:=[(b25,.cells ([]++[]:List Value).toArray 3 (0,0))]) (n:=0) (k:=(el ps i.i).r.n) (sz:=1) (news:=(el ps i.i).k.map Qx) rfl rfl Qf Qp VQ rfl DF (.some rfl rfl (Nat.le_refl _) (by decide)) (Src.Xk9 hk0 (fun F ⟨⟨hR,hA⟩,hO⟩=>(hA _ htm).1) (by simp [hkn])) (by omega) (by omega) (qE _) (fun v31 ob31 hr31=>?_))
   rw [Nat.zero_add,List.nil_append] at hr31
   obtain ⟨bb,cap3,rest,rfl,rfl,e1,e2,e3,e4⟩:=Q3.pos hr31 (by omega)
   refine JS_as rfl<|JS_nt<|J_sr<|JS_mv rfl<|JS_mv rfl<|JS_mv rfl<|QA (J6 rfl rfl (by omega))<|QA (Qv (i:=v) rfl rfl Qf Qp (by omega))<|QN (vs:=[_]) rfl rfl rfl Qp rfl (Own.skip .here i.ob) (K4 (by first | omega | (simp only [List.length_set];omega)) ((Qg (el ps (i.i)).k (v) - 1))) ⟨rfl,trivial⟩<|QE<|QC ?_
   obtain ⟨r9,hv9,hrn,hrc,hfix9⟩:=Q3.fix (w0:=w) (F0:=F) (bs1:=i.ob) (G:=_) (Q3.some (T:=3) (sz:=1) (b:=bb) (n:=(el ps i.i).r.n) (cap:=cap3) (l:=((el ps i.i).k.set v (Qg (el ps i.i).k v - 1)).map Qx) (rest:=rest) (by simpa using e1) (by simpa using e2) e3 e4)
   refine T9 hfix9 ?_
   rw [hv9]
   dsimp only [Sr.v]
   refine JN (List.nil_sublist _) mixed (by kernel_rfl)<|QK (QD rfl)<|QK (QD rfl)<|QK (QD rfl)<|QK (Ja (n:=n) (i.i) (fun F ⟨⟨⟨hR,hA⟩,hO⟩,hrow9⟩=>hR) rfl rfl Zh Xr (by omega))<|QK (QH rfl BS JR)<|QK (Jk (n:=n) ((i.i)*2+0) (fun F ⟨⟨⟨hR,hA⟩,hO⟩,hrow9⟩=>hR) (by omega) rfl JR (XM (f:=WQ) (l:=ps) VY (by omega) rfl))<|QK (QD rfl)<|QY rfl (fun w F hF ⟨⟨⟨hR,hA⟩,hO⟩,hrow9⟩=>Xjx hF ⟨by omega,by omega⟩) (fun _=>?_)
   rw [ef]
   refine QY rfl (fun w F hF ⟨⟨⟨⟨hR,hA⟩,hO⟩,hrow9⟩,_⟩=>RI hF (Nat.le_trans (hsz _ hLm) (by decide)) (by have h2:=DU (Qg (el ps i.i).k v);have h3:=P7 hdb;omega)) (fun _=>QK (QD rfl)<|QK (Qy rfl ZH Xe (.cons (vs:=[_]) rfl rfl rfl (.here .nil) (.cons (vs:=[_]) rfl rfl rfl (.skip (.here .nil)) .nil))) ?_)
   refine Jp rfl (Q6 Xi6) Xr Xe rfl rfl (fun b48=>?_) (fun w h=>h.imp (List.nil_sublist _) (fun F h=>h.1.1))
   rw [← List.append_nil i.ob]
   refine DP (ob:=i.ob) (n:=i.out.length) (k:=1) (sz:=2) (news:=WQ (⟨JQ ((el L i.i).1*((Qg (el ps i.i).k v:Int):Rat)),r9,((el ps i.i).k.set v (Qg (el ps i.i).k v - 1))⟩:GA)) rfl rfl Xi6 Xr Xe rfl x3 i.hr (Src.row (off:=0) (fun F ⟨⟨⟨⟨⟨⟨hR,hA⟩,hO⟩,hrow9⟩,_⟩,_⟩,hs48⟩=>hs48) (fun j u hu=>by rw [Nat.zero_add];show((WQ (⟨JQ ((el L i.i).1*((Qg (el ps i.i).k v:Int):Rat)),r9,((el ps i.i).k.set v (Qg (el ps i.i).k v - 1))⟩:GA)).toArray)[j]?=some u;rw [List.getElem?_toArray];exact hu) rfl) (by omega) (by omega) (qY _) subl_r (fun _ h=>h.1.1.1) (fun v49 ob49 hr49=>?_)
   rw [Xj0] at hr49
   refine QK (QF rfl)<|Q4<|Qk<|QC<|QB<|JS_mv rfl<|QA (Qu rfl rfl (by omega))<|JS_as rfl<|QE ?_
   exact Qo (⟨i.i+1,v49,ob49,i.out++[(⟨JQ ((el L i.i).1*((Qg (el ps i.i).k v:Int):Rat)),r9,((el ps i.i).k.set v (Qg (el ps i.i).k v - 1))⟩:GA)],hlt,by rw [List.length_append];exact hr49,by rw [Xi9,i.ho,Xj2 hlt,Xga,show AD v (el L i.i)=[((el L i.i).1*((Qg (el L i.i).2 v:Int):Rat),(el L i.i).2.set v (Qg (el L i.i).2 v - 1))] from if_pos (by rw [← ek];exact hkp)];show _++[(JQ ((el L i.i).1*((Qg (el ps i.i).k v:Int):Rat)),((el ps i.i).k.set v (Qg (el ps i.i).k v - 1)))]=_;rw [ek];rfl,by rw [List.length_append];simp;omega⟩) (by show L.length - (i.i+1)<L.length - i.i;omega) ⟨rfl,rfl,rfl,rfl,trivial⟩ (by rw [List.append_nil];exact List.Sublist.refl _) (fun F ⟨⟨⟨⟨⟨⟨hR,hA⟩,hO⟩,hrow9⟩,_⟩,_⟩,hs48⟩=>⟨⟨hR,hA⟩,hO.snoc ⟨by rw [hrn];exact hrow9,by rw [hrn,List.length_set];exact hkn,by rw [hrn];exact hrc⟩⟩)
  ·
   have hkp:=dec_f hc
   refine QP<|Qk<|QC<|QB<|JS_mv rfl<|QA (Qu rfl rfl (by omega))<|JS_as rfl<|QE ?_
   exact Qo (⟨i.i+1,i.v,i.ob,i.out,hlt,i.hr,by rw [i.ho,Xj2 hlt,show AD v (el L i.i)=[] from if_neg (by rw [← ek];exact hkp),List.append_nil],by omega⟩) (by show L.length - (i.i+1)<L.length - i.i;omega) ⟨rfl,rfl,rfl,rfl,trivial⟩ subl_r (fun F h=>h)
 ·
  have hge:i.i=L.length:=by have:=dec_f hc;omega
  have hil:=i.hl
  refine Q5 ?_
  repeat (first | refine Qd ?_ | refine QW (by rfl) ?_)
  refine Qe<|QC<|QG<|QB ?_
  obtain ⟨r,hv,hrn,hrc,hfix⟩:=Q3.fix (w0:=w) (F0:=F) (bs1:=[]) (G:=_) i.hr
  refine DN hfix ?_
  rw [hv]
  refine JS_mv rfl<|QI rfl (fun w F hF ⟨⟨⟨hR,hA⟩,hO⟩,hrow⟩=>Xif (N:=N) (ts:=i.out) (L:=KS v L) hF (by rw [hrn];exact hrow) hO hrn.symm (by have h:=i.ho;rwa [hge,List.take_length] at h) hw hz (by omega)) (fun c51=>JS_as rfl<|JS_nt<|QT ?_)
  exact QQ (c51) rfl (.tmp rfl .nil) (rfl) (fun F ⟨⟨⟨⟨hR,hA⟩,hO⟩,hrow⟩,h51⟩=>h51)
end
section
open Go.RowKit Ig
theorem Xiz {w:World} {F:Gs} {q:Option Addr} {n cap:Nat} {ps:List GA} (hF:Fits F w) (hR:Q9 F q n 2 (ps.flatMap WQ)) (hP:Yc F ps) (hln:ps.length=n) (hnb:n≤9223372036854775807):QZ Tryz.prog 75 [.slice q n cap] w F (.bool (Xgg (XB ps))):=by
 have hal:(XB ps).length=n:=by rw [GU];exact hln
 refine QS.intro (G:=fun F=>Q9 F q n 2 (ps.flatMap WQ)∧Yc F ps) Tryz.func75 rfl (by rfl) rfl rfl hF (fun F' hF'=>⟨hR.le hF',hP.le hF'⟩)<|J_sr<|JS_as rfl<|JS_nt<|QG<|J_sr<|JS_mv rfl<|QA (Ql rfl Zh)<|QA (QV rfl rfl rfl)<|JS_mv rfl ?_
 refine Qn (t:=6) rfl (fun hb6=>?_) (fun hb6=>?_)
 ·
  refine QL rfl rfl<|JS_mv rfl<|QL rfl rfl<|QA (Ql rfl Zh)<|QL rfl rfl<|QA (QV rfl rfl rfl)<|QA (Qi rfl rfl rfl)<|JS_mv rfl ?_
  refine Qn (t:=11) rfl (fun hb11=>?_) (fun hb11=>?_)
  ·
   refine QO rfl rfl rfl<|QO rfl rfl rfl<|QO rfl rfl rfl<|QA (Qi rfl rfl rfl)<|JS_nt<|WT rfl<|J_sr<|JS_as rfl<|JS_nt<|QT ?_
   exact QQ (()) rfl (.tmp rfl .nil) (congrArg Value.bool (by unfold Xgg;rw [hal];simp_all)) (fun F ⟨hR,hP⟩=>trivial)
  ·
   refine QL rfl rfl<|JS_mv rfl<|QL rfl rfl<|QA (Ql rfl Zh)<|QL rfl rfl<|QA (QV rfl rfl rfl)<|QA (Qh rfl rfl rfl)<|QE<|QC ?_
   refine QR rfl (fun hc=>?_) (fun hc=>?_)
   ·
    have h15:=hc
    refine J_sr<|JS_as rfl<|JS_nt<|QT ?_
    exact QQ (()) rfl (.tmp rfl .nil) (congrArg Value.bool (by unfold Xgg;rw [hal];simp_all)) (fun F ⟨hR,hP⟩=>trivial)
   ·
    have h15:=hc
    have hn70:ps.length≤1000000:=by simp_all;omega
    refine QP<|QC<|J_sr<|JS_mv rfl<|QI rfl (fun w F hF ⟨hR,hP⟩=>Xk7 hF (hR) (hP) (hln) (hn70)) (fun _=>JS_as rfl<|JS_nt<|QT ?_)
    exact QQ (()) rfl (.tmp rfl .nil) (congrArg Value.bool (by unfold Xgg;rw [hal];simp_all)) (fun F ⟨⟨hR,hP⟩,_⟩=>trivial)
 ·
  refine QO rfl rfl rfl<|QO rfl rfl rfl<|QO rfl rfl rfl<|QA (Qh rfl rfl rfl)<|JS_mv rfl<|QL rfl rfl<|JS_mv rfl<|QL rfl rfl<|QA (Ql rfl Zh)<|QL rfl rfl<|QA (QV rfl rfl rfl)<|QA (Qh rfl rfl rfl)<|QE<|QC ?_
  refine QR rfl (fun hc=>?_) (fun hc=>?_)
  ·
   have h15:=hc
   refine J_sr<|JS_as rfl<|JS_nt<|QT ?_
   exact QQ (()) rfl (.tmp rfl .nil) (congrArg Value.bool (by unfold Xgg;rw [hal];simp_all)) (fun F ⟨hR,hP⟩=>trivial)
  ·
   have h15:=hc
   have hn70:ps.length≤1000000:=by simp_all;omega
   refine QP<|QC<|J_sr<|JS_mv rfl<|QI rfl (fun w F hF ⟨hR,hP⟩=>Xk7 hF (hR) (hP) (hln) (hn70)) (fun _=>JS_as rfl<|JS_nt<|QT ?_)
   exact QQ (()) rfl (.tmp rfl .nil) (congrArg Value.bool (by unfold Xgg;rw [hal];simp_all)) (fun F ⟨⟨hR,hP⟩,_⟩=>trivial)
theorem Xjq:∀ {l:List Int},(∀ k∈l,0≤k)→WN l≤12→l.sum≤WN l∧0≤WN l
 |[],_,_=>⟨Int.le_refl _,Int.le_refl _⟩
 |x::l,h,hc=>by
  have h0:=h x (List.mem_cons_self ..)
  have e:WN (x::l)=(if 13<x then 13 else x)+WN l:=rfl
  have h2:0≤WN l:=(NG l fun k hk=>h k (List.mem_cons_of_mem _ hk)).1
  rw [e] at hc ⊢
  have hx:¬ 13<x:=by intro g;rw [if_pos g] at hc;omega
  rw [if_neg hx] at hc ⊢
  have ih:=Xjq (l:=l) (fun k hk=>h k (List.mem_cons_of_mem _ hk)) (by omega)
  rw [List.sum_cons]
  omega
theorem Xlq {f:List UInt8} {l:List Int} {v:Int} (h:VS f l v=0):(l.length:Int)=v+1∧(∀ k∈l,0≤k)∧l.sum≤12∧Jy f=0:=by
 unfold VS at h
 split at h
 ·omega
 ·rename_i h1
  split at h
  ·omega
  ·rename_i h2
   have h3:=Zf h
   have hn:∀ k∈l,0≤k:=fun k hk=>by
    rcases Int.lt_or_le k 0 with g | g
    ·exact absurd (List.any_eq_true.2 ⟨k,hk,decide_eq_true g⟩) h2
    ·exact g
   have hc:WN l≤12:=by
    have:=h3.1
    split at this
    ·omega
    ·rename_i g;simpa using g
   have:=Xjq hn hc
   exact⟨by omega,hn,by omega,h3.2⟩
theorem Xl7 {p:Pt} (h:Xit p=true):∀ x∈p,x.2.length≤30∧x.1.length≤20:=fun x hx=>by
 unfold Xit at h
 rw [Bool.not_eq_true'] at h
 rw [← Bool.not_eq_true,List.any_eq_true] at h
 by_cases g:x.2.length≤30∧x.1.length≤20
 ·exact g
 ·exact absurd ⟨x,hx,by simp;omega⟩ h
theorem Xis {p:Pt} (h:Xgg p=true):(p.length≤8∨64<p.length∧p.length≤70)∧∀ x∈p,x.2.length≤30∧x.1.length≤20:=by
 unfold Xgg at h
 split at h
 ·cases h
 ·rename_i g
  refine⟨?_,Xl7 h⟩
  simp at g
  omega
end
section
open Go.RowKit Ig
theorem Xli {l:List Tm} (h:Canon l):l.any (fun t=>decide (t.2.sum>12))=decide (qS l>12):=by
 cases l with
 |nil=>simp [qS]
 |cons t l =>
  have hb:=(List.pairwise_cons.1 h.jD).1
  show(t::l).any _=decide (t.2.sum>12)
  rw [Bool.eq_iff_iff,List.any_eq_true,decide_eq_true_eq]
  constructor
  ·rintro ⟨x,hx,hd⟩
   rw [decide_eq_true_eq] at hd
   rcases List.mem_cons.1 hx with rfl | hx
   ·exact hd
   ·have:=hb x hx
    unfold before at this
    rw [Bool.or_eq_true,Bool.and_eq_true,decide_eq_true_eq,decide_eq_true_eq] at this
    omega
  ·intro hd
   exact⟨t,List.mem_cons_self,by rw [decide_eq_true_eq];exact hd⟩
theorem Xl5 {l:List Tm} (h:Canon l):Xj4 (Da l)=Bz l:=by
 have e1:(Da l).any (fun x=>decide (x.2.sum>12))=decide (qS l>12):=by
  rw [← Xli h];unfold Da;rw [List.any_map];rfl
 have e2:(Da l).any (fun x=>BJ x.1 != 0)=Hc l:=by
  unfold Da Hc
  rw [List.any_map]
  refine congrArg (fun f=>l.any f) (funext fun t=>?_)
  show(BJ (JQ t.1) != 0)=Xi t.1
  rw [CB];cases Xi t.1<;>rfl
 unfold Xj4 Bz
 rw [e1,e2,Xid]
 by_cases a:qS l>12
 ·simp [a,Qm]
 ·by_cases b:(l.length:Int)>64
  ·simp [a,b,Qm]
  ·cases c:Hc l<;>simp [a,b,Qm]
theorem Xkn {l:List Tm} (h:Canon l):Xii (Nl l) (Bz l) 0 (Da l)=true:=by
 unfold Xii
 rw [if_pos rfl,Xl5 h]
 unfold Nl
 by_cases e:Bz l=0
 ·rw [if_pos e,if_pos e,e];simp
 ·rw [if_neg e,if_neg e];simp
theorem Xl6 {d:Int} (h:d≠0) (w:Pt):Xii [] d d w=true:=by
 unfold Xii;rw [if_neg h];simp
theorem Xkk {l:List Tm} {x:List UInt8×List Int} (h:x∈Nl l):∃ t∈l,x=(JQ t.1,t.2):=by
 unfold Nl at h
 split at h
 ·unfold Da at h;obtain ⟨t,ht,rfl⟩:=List.mem_map.1 h;exact⟨t,ht,rfl⟩
 ·cases h
theorem Xkm (l:List Tm):(Nl l).length≤l.length:=by
 unfold Nl;split
 ·rw [Xid];exact Nat.le_refl _
 ·exact Nat.zero_le _
section
variable {w:World} {F:Gs}
theorem Xka {c d:Ku} {l:List Tm} (hF:Fits F w) (hC:VK F c.1 c.2 (Nl l)) (hD:VK F d.1 d.2 (Da l)) (hc:Canon l) (hp:∀ t∈l,PW t.2∧JL t.1≤100000000) (hl:l.length≤1000000):QZ Tryz.prog 64 [c.1.v,.int .i64 (Bz l),.int .i64 0,d.1.v] w F (.bool true):=by
 have lc:c.2.length≤1000000:=by have:=Xkm l;rw [← hC.2.2.1,GU] at this;omega
 have ld:d.2.length≤1000000:=by rw [Xi4 hD.2.2.1];exact hl
 have h:=Xk6 (q:=c.1.q) (n:=c.1.n) (cap:=c.1.cap) (q2:=d.1.q) (n2:=d.1.n) (cap2:=d.1.cap) (a:=c.2) (b:=d.2) (e:=Bz l) (d:=0) hF hC.1 hC.2.1 hD.1 hD.2.1 hC.2.2.2.2 hD.2.2.2.2
  (fun t ht=>by
   have hm:(t.f,t.k)∈Nl l:=by rw [← hC.2.2.1];exact List.mem_map.2 ⟨t,ht,rfl⟩
   obtain ⟨x,hx,e⟩:=Xkk hm
   have:=(hp x hx).1.2
   have e2:t.k=x.2:=(Prod.mk.inj e).2
   rw [e2];omega)
  (fun t ht=>by
   have hm:(t.f,t.k)∈Da l:=by rw [← hD.2.2.1];exact List.mem_map.2 ⟨t,ht,rfl⟩
   unfold Da at hm
   obtain ⟨x,hx,e⟩:=List.mem_map.1 hm
   have e1:=(Prod.mk.inj e).1
   have e2:=(Prod.mk.inj e).2
   have:=hp x hx
   exact⟨by rw [← e1];have:=Gy x.1;omega,by rw [← e2];exact this.1⟩) lc ld
 rw [hC.2.2.1,hD.2.2.1,Xkn hc] at h
 exact h
theorem Xjj {c:Ku} {e d:Int} {q:Option Addr} {n cap:Nat} {ds:List GA} {p:Pt} (hF:Fits F w) (hC:VK F c.1 c.2 p) (h0:p=[]) (he:e=d) (hd:d≠0) (hR:Q9 F q n 2 (ds.flatMap WQ)) (hA:Yc F ds) (hn:ds.length=n) (hf:∀ t∈ds,t.f.length≤1000000000∧PW t.k) (hl:n≤1000000):QZ Tryz.prog 64 [c.1.v,.int .i64 e,.int .i64 d,.slice q n cap] w F (.bool true):=by
 subst h0 he
 have hc2:c.2=[]:=by have:=hC.2.2.1;unfold XB at this;exact List.map_eq_nil_iff.1 this
 have h:=Xk6 (q:=c.1.q) (n:=c.1.n) (cap:=c.1.cap) (q2:=q) (n2:=n) (cap2:=cap) (a:=c.2) (b:=ds) (e:=e) (d:=e) hF hC.1 hC.2.1 hR hA hC.2.2.2.2 hn (fun t ht=>by rw [hc2] at ht;cases ht) hf (by rw [hc2];decide) (by omega)
 rw [hC.2.2.1,Xl6 hd] at h
 exact h
theorem Xih {c:Ku} {e d:Int} {p:Pt} (hF:Fits F w) (hC:VK F c.1 c.2 p) (h0:p=[]) (he:e=d) (hd:d≠0):QZ Tryz.prog 64 [c.1.v,.int .i64 e,.int .i64 d,.slice none 0 0] w F (.bool true) :=
 Xjj (ds:=[]) hF hC h0 he hd (Q9.nil F none 2) (fun _ h=>by cases h) rfl (fun _ h=>by cases h) (by decide)
end
end
section
open Go.RowKit Ig
theorem Xkh {p:Pt} (h:∀ x∈p,Jy x.1=0):p=Da (JG p):=by
 unfold Da JG
 rw [List.map_map]
 induction p with
 |nil=>rfl
 |cons x p ih =>
  rw [List.map_cons,← ih fun y hy=>h y (List.mem_cons_of_mem _ hy)]
  show x::p=(JQ (Ju x.1),x.2)::p
  rw [← (Zj (h x List.mem_cons_self)).1]
theorem Xjz {w:World} {F:Gs} {c d:Ku} {l:List Tm} {p:Pt} {e:Int} (hF:Fits F w) (hC:VK F c.1 c.2 p) (hp0:p=Nl l) (he:e=Bz l) (hD:VK F d.1 d.2 (Da l)) (hc:Canon l) (hp:∀ t∈l,PW t.2∧JL t.1≤100000000) (hl:l.length≤1000000):QZ Tryz.prog 64 [c.1.v,.int .i64 e,.int .i64 0,d.1.v] w F (.bool true):=by
 subst hp0 he
 exact Xka hF hC hD hc hp hl
end
section
open Go.RowKit Ig
def Xei (F:Gs) (x:Ku) (b:Int) (l:List Tm):Prop:=VK F x.1 x.2 (XB x.2)∧(∀ t∈x.2,t.f.length≤1000000000∧PW t.k)∧x.1.n≤1000000∧(b=0→XB x.2=Da l)
theorem Xei.le {F F':Gs} {x:Ku} {b:Int} {l:List Tm} (h:Xei F x b l) (k:Gs.le F F'):Xei F' x b l:=⟨h.1.le k,h.2⟩
theorem Xei.none {F:Gs} {b:Int} {l:List Tm} (h:b≠0):Xei F (⟨none,0,0⟩,[]) b l:=⟨VK.nil F,fun _ h=>(by cases h),Nat.zero_le _,fun e=>absurd e h⟩
theorem Xei.OM {F:Gs} {x:Ku} {b b':Int} {l l':List Tm} (h:Xei F x b l) (k:b'≠0):Xei F x b' l':=⟨h.1,h.2.1,h.2.2.1,fun e=>absurd e k⟩
theorem Xei.of {F:Gs} {x:Ku} {b:Int} {l:List Tm} (h:VK F x.1 x.2 (Da l)) (hp:∀ t∈l,PW t.2∧JL t.1≤100000000) (hl:l.length≤1000000):Xei F x b l :=
 ⟨⟨h.1,h.2.1,rfl,h.2.2.2⟩,fun t ht=>by
  have hm:(t.f,t.k)∈Da l:=by rw [← h.2.2.1];exact List.mem_map.2 ⟨t,ht,rfl⟩
  unfold Da at hm
  obtain ⟨y,hy,e⟩:=List.mem_map.1 hm
  have e1:=(Prod.mk.inj e).1
  have e2:=(Prod.mk.inj e).2
  have:=hp y hy
  exact⟨by rw [← e1];have:=Gy y.1;omega,by rw [← e2];exact this.1⟩,by rw [h.Xlx];exact hl,fun _=>h.2.2.1⟩
theorem Xig {w:World} {F:Gs} {c x:Ku} {p:Pt} {e b:Int} {l:List Tm} (hF:Fits F w) (hC:VK F c.1 c.2 p) (hb:b≠0→p=[]∧e=b) (h0:b=0→p=Nl l∧e=Bz l) (hW:Xei F x b l) (hc:b=0→Canon l) (hp:b=0→∀ t∈l,PW t.2∧JL t.1≤100000000) (hl:b=0→l.length≤1000000) :
  QZ Tryz.prog 64 [c.1.v,.int .i64 e,.int .i64 b,x.1.v] w F (.bool true):=by
 by_cases h:b=0
 ·have h1:=h0 h
  subst h
  exact Xjz hF hC h1.1 h1.2 ⟨hW.1.1,hW.1.2.1,hW.2.2.2 rfl,hW.1.2.2.2⟩ (hc rfl) (hp rfl) (hl rfl)
 ·exact Xjj hF hC (hb h).1 (hb h).2 h hW.1.1 hW.1.2.1 hW.1.2.2.2.2 hW.2.1 hW.2.2.1
theorem Xiw {y:Rat} {l:List Tm} (h:Canon l):Canon (V1 y l)∧XC (Xi7 y l)=V1 y l:=by
 unfold V1
 by_cases e:y=0
 ·rw [if_pos e,e]
  refine⟨Canon.nil,?_⟩
  have:EO (Xi7 0 l) []:=by
   unfold Xi7
   clear h
   induction l with
   |nil=>exact EO.refl _
   |cons t l ih =>
    rw [List.map_cons,Rat.zero_mul]
    exact(eqv_zero _ _).trans ih
  rw [Xjm this];rfl
 ·rw [if_neg e]
  have hs:Xi7 y l=l.map fun t=>(t.1*y,t.2):=List.map_congr_left fun t _=>by rw [Rat.mul_comm]
  have hC:Canon (l.map fun t=>((t.1*y,t.2):Tm)):=⟨List.pairwise_map.2 h.jD,fun t ht=>by
   obtain ⟨u,hu,rfl⟩:=List.mem_map.1 ht
   intro z
   rcases Rat.mul_eq_zero.1 z with z | z
   ·exact h.nz u hu z
   ·exact e z⟩
  exact⟨hC,by rw [hs];exact Wu hC⟩
section
variable {a b:Ku} {c:List UInt8} {p:Pt} {v x:Int} {l:List Tm}
theorem Xlt (hv:Zg v=0):Vv [a,b] v=Qm [Xs (XB a.2) v,Xs (XB b.2) v]:=by unfold Vv;rw [if_pos hv];rfl
theorem Xlr (hv:Zg v=0) (h:Qm [Xs (XB a.2) v,Xs (XB b.2) v]≠0):gB [a,b] v l=[]∧gC [a,b] v l=Qm [Xs (XB a.2) v,Xs (XB b.2) v]:=by
 unfold gB gC;rw [Xlt hv,if_neg h,if_neg h];exact⟨rfl,rfl⟩
theorem Xls (hv:Zg v=0) (h:Qm [Xs (XB a.2) v,Xs (XB b.2) v]=0):gB [a,b] v l=Nl l∧gC [a,b] v l=Bz l:=by
 unfold gB gC;rw [Xlt hv,if_pos h,if_pos h];exact⟨rfl,rfl⟩
theorem Xlj (hv:Zg v≠0):gB [a,b] v l=[]∧gC [a,b] v l=Zg v:=by
 have e:Vv [a,b] v=Zg v:=if_neg hv
 unfold gB gC;rw [e,if_neg hv,if_neg hv];exact⟨rfl,rfl⟩
theorem Xlu (hv:Zg v=0) (h:Qm [Jy c,Xs p v]≠0):vg c p v l=[]∧vi c p v l=Qm [Jy c,Xs p v]:=by
 unfold vg vi;rw [hv]
 by_cases a:Jy c=0
 ·by_cases b:Xs p v=0
  ·simp [a,b,Qm] at h
  ·simp [a,b,Qm]
 ·simp [a,Qm]
theorem Xlv (hv:Zg v=0) (h:Qm [Jy c,Xs p v]=0):vg c p v l=Nl l∧vi c p v l=Bz l:=by
 obtain ⟨h1,h2⟩:=K8 h
 unfold vg vi;rw [hv];simp [h1,h2,Qm]
theorem Xlm (hv:Zg v≠0):vg c p v l=[]∧vi c p v l=Zg v:=by
 unfold vg vi;simp [hv,Qm]
theorem Xly (hv:Zg v=0) (h:Qm [Xs (XB a.2) v,vE x v]≠0):yN a v x l=[]∧yO a v x l=Qm [Xs (XB a.2) v,vE x v]:=by
 have e:Vv [a] v=Xs (XB a.2) v:=by unfold Vv;rw [if_pos hv];simp [Qm];exact fun h=>h.symm
 unfold yN yO;rw [e,if_neg h,if_neg h];exact⟨rfl,rfl⟩
theorem Xlz (hv:Zg v=0) (h:Qm [Xs (XB a.2) v,vE x v]=0):yN a v x l=Nl l∧yO a v x l=Bz l:=by
 have e:Vv [a] v=Xs (XB a.2) v:=by unfold Vv;rw [if_pos hv];simp [Qm];exact fun h=>h.symm
 unfold yN yO;rw [e,if_pos h,if_pos h];exact⟨rfl,rfl⟩
theorem Xln (hv:Zg v≠0):yN a v x l=[]∧yO a v x l=Zg v:=by
 have e:Vv [a] v=Zg v:=if_neg hv
 unfold yN yO;rw [e];simp [hv,Qm]
end
structure Xi5 (p:Pt) (v:Int):Prop where
 hv:0≤v∧v≤24
 ok:Yk p v
 len:p.length≤8
 txt:p=Da (JG p)
 sz:∀ t∈JG p,JL t.1≤80
 wp:∀ t∈JG p,t.2.length=(v+1).toNat∧PW t.2
theorem Xi5.of {p:Pt} {v:Int} (hv:Zg v=0) (h:Xs p v=0) (hl:Xgg p=true):Xi5 p v:=by
 have ho:=Vk h
 have hv2:=(Ks v).1 hv
 obtain ⟨h5,h6⟩:=Xis hl
 have hck:∀ x∈p,Jy x.1=0:=fun x hx=>(Ky (ho.term x hx)).2.2.2
 refine⟨hv2,ho,by have:=ho.len;omega,Xkh hck,fun t ht=>?_,fun t ht=>⟨by have:=ho.wide t ht;omega,ho.pw hv2.2 t ht⟩⟩
 unfold JG at ht
 obtain ⟨x,hx,rfl⟩:=List.mem_map.1 ht
 exact q8 (hck x hx) (k:=20) (by decide) (h6 x hx).2
theorem Xi5.Xir {p:Pt} {v:Int} (h:Xi5 p v):(JG p).length≤8:=by unfold JG;rw [List.length_map];exact h.len
theorem Xi5.Zb {p:Pt} {v:Int} (h:Xi5 p v):YtknegjaeoffnbaaGreatDoor.Zb (JG p)≤648:=by
 have h1:=Bu h.sz
 have h2:=h.Xir
 have:=Nat.mul_le_mul_right 81 h2
 omega
theorem Xj8 {l:List Tm} {k:Nat} (hp:∀ t∈l,PW t.2) (hz:YtknegjaeoffnbaaGreatDoor.Zb l≤90000):∀ t∈XC l,PW t.2∧JL t.1≤100000000:=fun t ht=>by
 obtain ⟨y,hy,e⟩:=B6 ht
 exact⟨by rw [← e];exact hp y hy,Nat.le_trans (Bt ht) (by omega)⟩
section
variable {w:World} {F:Gs} {q q2:Option Addr} {n cap n2 cap2:Nat} {ps qs:List GA} {v:Int}
theorem Xi5.add {p r:Pt} (hp:Xi5 p v) (hr:Xi5 r v):(∀ t∈JG p++JG r,t.2.length=(v+1).toNat∧PW t.2)∧YtknegjaeoffnbaaGreatDoor.Zb (JG p++JG r)≤90000 :=
 ⟨fun t ht=>by
  rcases List.mem_append.1 ht with ht | ht
  ·exact hp.wp t ht
  ·exact hr.wp t ht,by rw [Xb];have:=hp.Zb;have:=hr.Zb;omega⟩
theorem len8 {ts:List GA} {n:Nat} {v:Int} (h:ts.length=n) (hp:Xi5 (XB ts) v):n≤8:=by have:=hp.len;rw [GU] at this;omega
theorem Xij {F:Gs} {c:Ku} {l:List Tm} {N:Nat} {b:Int} (h:VK F c.1 c.2 (Da (XC l))) (hp:∀ t∈l,t.2.length=N∧PW t.2) (hz:YtknegjaeoffnbaaGreatDoor.Zb l≤90000) (hl:l.length≤1000):Xei F c b (XC l) :=
 Xei.of h (Xj8 (k:=0) (fun t ht=>(hp t ht).2) hz) (by have:=Vr l;omega)
theorem Xi5.scl {p:Pt} {y:Rat} (hp:Xi5 p v) (hy:JL y≤80):(∀ t∈Xi7 y (JG p),t.2.length=(v+1).toNat∧PW t.2)∧YtknegjaeoffnbaaGreatDoor.Zb (Xi7 y (JG p))≤90000:=by
 refine⟨fun t ht=>?_,?_⟩
 ·obtain ⟨u,hu,rfl⟩:=List.mem_map.1 ht
  exact hp.wp u hu
 ·have h1:=Bu (l:=Xi7 y (JG p)) (k:=160) fun t ht=>by
   obtain ⟨u,hu,rfl⟩:=List.mem_map.1 ht
   have:=XA y u.1
   have:=hp.sz u hu
   dsimp only;omega
  have h2:=hp.Xir
  unfold Xi7 at h1 ⊢
  rw [List.length_map] at h1
  have:=Nat.mul_le_mul_right 161 h2
  omega
theorem Xlp {p:Pt} {c:List UInt8} (hp:Xi5 p v) (hc:Jy c=0) (hcl:c.length≤20):∀ t∈V1 (Ju c) (JG p),PW t.2∧JL t.1≤100000000:=fun t ht=>by
 obtain ⟨y,hy,rfl⟩:=Mn ht
 have h1:=XA y.1 (Ju c)
 have h2:=hp.sz y hy
 have h3:=q8 hc (k:=20) (by decide) hcl
 exact⟨(hp.wp y hy).2,by dsimp only;omega⟩
theorem Xi5.der {p:Pt} {i:Nat} (hp:Xi5 p v) (hi:i<(v+1).toNat):(∀ t∈KS i (JG p),t.2.length=(v+1).toNat∧PW t.2)∧YtknegjaeoffnbaaGreatDoor.Zb (KS i (JG p))≤90000:=by
 refine⟨fun t ht=>?_,?_⟩
 ·obtain ⟨u,hu,h0,rfl⟩:=Mo ht
  have:=hp.wp u hu
  exact⟨by show(u.2.set i _).length=_;rw [List.length_set];exact this.1,this.2.set h0⟩
 ·have h1:=Bu (A2 (v:=i) (l:=JG p) fun t ht=>⟨Nat.le_trans (hp.sz t ht) (by decide),(hp.wp t ht).2,by rw [(hp.wp t ht).1];exact hi⟩)
  have h2:=hp.Xir
  have h3:=NC i (JG p)
  have:=Nat.mul_le_mul_right 2501 (Nat.le_trans h3 h2)
  omega
end
theorem Xlo {w:World} {F:Gs} {qa qb:Option Addr} {na ca nb cb:Nat} {ps qs:List GA} {c:List UInt8} {v x:Int} (hF:Fits F w) (hGl:JB F) (hR:Q9 F qa na 2 (ps.flatMap WQ)) (hP:Yc F ps) (hln:ps.length=na) (hnb:na≤9223372036854775807) (hR2:Q9 F qb nb 2 (qs.flatMap WQ)) (hP2:Yc F qs) (hln2:qs.length=nb) (hnb2:nb≤9223372036854775807) :
  QZ Tryz.prog 10 [.agg #[.slice qa na ca,.slice qb nb cb,tx c],.int .i64 v,.int .i64 x] w F (.bool true):=by
 refine QS.intro (G:=fun F=>JB F∧Q9 F qa na 2 (ps.flatMap WQ)∧Yc F ps∧Q9 F qb nb 2 (qs.flatMap WQ)∧Yc F qs) Tryz.func10 rfl (by rfl) rfl rfl hF (fun F' hF'=>⟨hGl.le hF',hR.le hF',hP.le hF',hR2.le hF',hP2.le hF'⟩)<|QG<|QB ?_
 refine Qw rfl (vs:=[_,_,_]) rfl (fun b3=>?_)
 refine DM (b:=b3) .here<|JS_as rfl<|JS_nt<|QG ?_
 refine KZ [(1,_),(2,_),(3,_)] [(36,.bool ((((!Xgg (XB ps))||(!Xgg (XB qs)))||decide ((c.length:Int)>20))))] ⟨rfl,rfl,rfl,trivial⟩ ?_ ?_
 ·
  refine QB ?_
  refine QI rfl (fun w F hF ⟨⟨hGl,hR,hP,hR2,hP2⟩,hz3⟩=>T2 hF hGl) (fun _=>?_)
  refine QA (Yt rfl)<|JS_mv rfl<|QL rfl rfl<|QA (QH rfl Xi8 ME)<|QL rfl rfl<|QA (Jk (n:=1) ((0)*3+0) (fun F ⟨⟨⟨hGl,hR,hP,hR2,hP2⟩,hz3⟩,_⟩=>(Q9.of (n:=1) (sz:=3) hz3 rfl)) (by omega) rfl ME rfl)<|QL rfl rfl ?_
  refine QI rfl (fun w F hF ⟨⟨⟨hGl,hR,hP,hR2,hP2⟩,hz3⟩,_⟩=>Xiz hF hR hP hln hnb) (fun _=>?_)
  refine QL rfl rfl<|QA (Yt rfl)<|QA (Qh rfl rfl rfl)<|JS_mv rfl ?_
  refine Qn (t:=25) rfl (fun hb25=>?_) (fun hb25=>?_)
  ·
   refine QO rfl rfl rfl<|QO rfl rfl rfl<|QO rfl rfl rfl<|QO rfl rfl rfl<|QA (Qi rfl rfl rfl)<|JS_mv rfl<|QO rfl rfl rfl<|QO rfl rfl rfl<|QO rfl rfl rfl<|QO rfl rfl rfl<|QA (Qi rfl rfl rfl)<|QE ?_
   exact X0 ⟨rfl,rfl,rfl,(congrArg (fun b=>some (Value.bool b)) (by rw [Bool.eq_iff_iff];simp_all<;>(intros;omega))),trivial⟩ subl_r (fun _ h=>h.1.1)
  ·
   refine QL rfl rfl<|QA (QH rfl Xje ME)<|QL rfl rfl<|QA (Jk (n:=1) ((0)*3+1) (fun F ⟨⟨⟨⟨hGl,hR,hP,hR2,hP2⟩,hz3⟩,_⟩,_⟩=>(Q9.of (n:=1) (sz:=3) hz3 rfl)) (by omega) rfl ME rfl)<|QL rfl rfl ?_
   refine QI rfl (fun w F hF ⟨⟨⟨⟨hGl,hR,hP,hR2,hP2⟩,hz3⟩,_⟩,_⟩=>Xiz hF hR2 hP2 hln2 hnb2) (fun _=>?_)
   refine QL rfl rfl<|QA (Yt rfl)<|QA (Qh rfl rfl rfl)<|JS_mv rfl ?_
   refine Qn (t:=31) rfl (fun hb31=>?_) (fun hb31=>?_)
   ·
    refine QO rfl rfl rfl<|QO rfl rfl rfl<|QO rfl rfl rfl<|QO rfl rfl rfl<|QA (Qi rfl rfl rfl)<|QE ?_
    exact X0 ⟨rfl,rfl,rfl,(congrArg (fun b=>some (Value.bool b)) (by rw [Bool.eq_iff_iff];simp_all<;>(intros;omega))),trivial⟩ subl_r (fun _ h=>h.1.1.1)
   ·
    refine QL rfl rfl<|QA (QH rfl Xjd JR)<|QL rfl rfl<|QA (Jk (n:=1) ((0)*3+2) (fun F ⟨⟨⟨⟨⟨hGl,hR,hP,hR2,hP2⟩,hz3⟩,_⟩,_⟩,_⟩=>(Q9.of (n:=1) (sz:=3) hz3 rfl)) (by omega) rfl JR rfl)<|QL rfl rfl<|QA (J9 rfl MQ)<|QL rfl rfl<|QA (QV rfl rfl rfl)<|QA (Qh rfl rfl rfl)<|QE ?_
    exact X0 ⟨rfl,rfl,rfl,(congrArg (fun b=>some (Value.bool b)) (by rw [Bool.eq_iff_iff];simp_all<;>(intros;omega))),trivial⟩ subl_r (fun _ h=>h.1.1.1)
 ·
  simp only [List.cons_append,List.nil_append]
  refine QR rfl (fun hc=>?_) (fun hc=>?_)
  ·
   refine QG<|QB ?_
   refine QI rfl (fun w F hF ⟨⟨hGl,hR,hP,hR2,hP2⟩,hz3⟩=>T2 hF hGl) (fun _=>?_)
   refine JS_as rfl<|JS_nt<|QT ?_
   exact QQ (()) rfl (.tmp rfl .nil) (rfl) (fun F ⟨⟨⟨hGl,hR,hP,hR2,hP2⟩,hz3⟩,_⟩=>trivial)
  ·
   simp only [Bool.or_eq_false_iff,decide_eq_false_iff_not,Bool.not_eq_false'] at hc
   obtain ⟨⟨hla,hlb⟩,hc20⟩:=hc
   have hcl:c.length≤20:=by omega
   obtain ⟨hl70,hlt⟩:=Xis hla
   obtain ⟨hl70b,hltb⟩:=Xis hlb
   rw [GU] at hl70 hl70b
   have hta:VN (⟨⟨qa,na,ca⟩,ps⟩:Ku):=⟨hln,fun t ht=>by have:=hlt _ (List.mem_map.2 ⟨t,ht,rfl⟩:(t.f,t.k)∈XB ps);exact⟨by have:=this.2;dsimp only at this;omega,by have:=this.1;dsimp only at this;omega⟩,by dsimp only;omega⟩
   have htb:VN (⟨⟨qb,nb,cb⟩,qs⟩:Ku):=⟨hln2,fun t ht=>by have:=hltb _ (List.mem_map.2 ⟨t,ht,rfl⟩:(t.f,t.k)∈XB qs);exact⟨by have:=this.2;dsimp only at this;omega,by have:=this.1;dsimp only at this;omega⟩,by dsimp only;omega⟩
   refine QP<|QC<|J_sr<|QA (QH rfl Xi8 ME)<|QA (Jk (n:=1) ((0)*3+0) (fun F ⟨⟨hGl,hR,hP,hR2,hP2⟩,hz3⟩=>(Q9.of (n:=1) (sz:=3) hz3 rfl)) (by omega) rfl ME rfl)<|QA (QH rfl Xje ME)<|QA (Jk (n:=1) ((0)*3+1) (fun F ⟨⟨hGl,hR,hP,hR2,hP2⟩,hz3⟩=>(Q9.of (n:=1) (sz:=3) hz3 rfl)) (by omega) rfl ME rfl)<|JS_mv rfl ?_
   refine QI rfl (fun w F hF ⟨⟨hGl,hR,hP,hR2,hP2⟩,hz3⟩=>Xkg (a:=(⟨⟨qa,na,ca⟩,ps⟩:Ku)) (b:=(⟨⟨qb,nb,cb⟩,qs⟩:Ku)) (v:=v) hF hGl (fun e he=>by
      rcases List.mem_cons.1 he with rfl | he
      ·exact⟨hR,hP⟩
      ·rw [List.mem_singleton.1 he];exact⟨hR2,hP2⟩) (fun e he=>by
      rcases List.mem_cons.1 he with rfl | he
      ·exact hta
      ·rw [List.mem_singleton.1 he];exact htb)) (fun c44=>?_)
   refine JS_mv rfl<|QA (QM rfl rfl)<|QA (QM rfl rfl)<|JS_as rfl<|JS_as rfl<|JS_nt<|J_sr<|QA (QH rfl Xjd JR)<|QA (Jk (n:=1) ((0)*3+2) (fun F ⟨⟨⟨hGl,hR,hP,hR2,hP2⟩,hz3⟩,h44⟩=>(Q9.of (n:=1) (sz:=3) hz3 rfl)) (by omega) rfl JR rfl)<|QA (QH rfl Xi8 ME)<|QA (Jk (n:=1) ((0)*3+0) (fun F ⟨⟨⟨hGl,hR,hP,hR2,hP2⟩,hz3⟩,h44⟩=>(Q9.of (n:=1) (sz:=3) hz3 rfl)) (by omega) rfl ME rfl)<|JS_mv rfl ?_
   refine QI rfl (fun w F hF ⟨⟨⟨hGl,hR,hP,hR2,hP2⟩,hz3⟩,h44⟩=>jE (a:=(⟨⟨qa,na,ca⟩,ps⟩:Ku)) (c:=c) (v:=v) hF hGl hR hP hta (by omega)) (fun c53=>?_)
   refine JS_mv rfl<|QA (QM rfl rfl)<|QA (QM rfl rfl)<|JS_as rfl<|JS_as rfl<|JS_nt<|J_sr<|QA (QH rfl Xi8 ME)<|QA (Jk (n:=1) ((0)*3+0) (fun F ⟨⟨⟨⟨hGl,hR,hP,hR2,hP2⟩,hz3⟩,h44⟩,h53⟩=>(Q9.of (n:=1) (sz:=3) hz3 rfl)) (by omega) rfl ME rfl)<|JS_mv rfl<|JS_mv rfl ?_
   refine QI rfl (fun w F hF ⟨⟨⟨⟨hGl,hR,hP,hR2,hP2⟩,hz3⟩,h44⟩,h53⟩=>Rt (a:=(⟨⟨qa,na,ca⟩,ps⟩:Ku)) (n:=v) (v:=x) hF hGl (fun e he=>by rw [List.mem_singleton.1 he];exact⟨hR,hP⟩) (fun e he=>by rw [List.mem_singleton.1 he];exact hta)) (fun c61=>?_)
   refine JS_mv rfl<|QA (QM rfl rfl)<|QA (QM rfl rfl)<|JS_as rfl<|JS_as rfl<|JS_nt<|J_sr<|JS_mv rfl ?_
   refine QI rfl (fun w F hF ⟨⟨⟨⟨⟨hGl,hR,hP,hR2,hP2⟩,hz3⟩,h44⟩,h53⟩,h61⟩=>Xj6 hF) (fun _=>?_)
   refine JS_as rfl<|JS_nt<|QG<|J_sr<|JS_mv rfl<|QA (QV rfl rfl rfl)<|QE<|QC ?_
   refine QR rfl (fun hc=>?_) (fun hc=>?_)
   ·
    have hb:Zg v≠0:=by simpa using hc
    refine J_sr<|JS_mv rfl<|JS_mv rfl<|JS_mv rfl ?_
    refine QI rfl (fun w F hF ⟨⟨⟨⟨⟨⟨hGl,hR,hP,hR2,hP2⟩,hz3⟩,h44⟩,h53⟩,h61⟩,_⟩=>Xih (c:=c44) hF h44 (Xlj hb).1 (Xlj hb).2 hb) (fun _=>?_)
    refine JS_mv rfl<|QL rfl rfl<|JS_mv rfl<|QL rfl rfl<|JS_mv rfl<|QL rfl rfl<|JS_mv rfl<|QL rfl rfl ?_
    refine QI rfl (fun w F hF ⟨⟨⟨⟨⟨⟨⟨hGl,hR,hP,hR2,hP2⟩,hz3⟩,h44⟩,h53⟩,h61⟩,_⟩,_⟩=>Xih (c:=c53) hF h53 (Xlm hb).1 (Xlm hb).2 hb) (fun _=>?_)
    refine QA (Qi rfl rfl rfl)<|JS_mv rfl<|QL rfl rfl<|JS_mv rfl<|QL rfl rfl<|JS_mv rfl<|QL rfl rfl<|JS_mv rfl<|QL rfl rfl ?_
    refine QI rfl (fun w F hF ⟨⟨⟨⟨⟨⟨⟨⟨hGl,hR,hP,hR2,hP2⟩,hz3⟩,h44⟩,h53⟩,h61⟩,_⟩,_⟩,_⟩=>Xih (c:=c61) hF h61 (Xln hb).1 (Xln hb).2 hb) (fun _=>?_)
    refine QA (Qi rfl rfl rfl)<|JS_as rfl<|JS_nt<|QT ?_
    exact QQ (()) rfl (.tmp rfl .nil) (rfl) (fun F ⟨⟨⟨⟨⟨⟨⟨⟨⟨hGl,hR,hP,hR2,hP2⟩,hz3⟩,h44⟩,h53⟩,h61⟩,_⟩,_⟩,_⟩,_⟩=>trivial)
   ·
    have hv:Zg v=0:=by simpa using hc
    have hv24:=(Ks v).1 hv
    have hlo:Xs (XB ps) v=0→Xi5 (XB ps) v:=fun h=>Xi5.of hv h hla
    have hlo2:Xs (XB qs) v=0→Xi5 (XB qs) v:=fun h=>Xi5.of hv h hlb
    refine QP<|QC<|QG<|JN subl_r mixed (by kernel_rfl)<|QK (QH rfl Xi8 ME)<|QK (Jk (n:=1) ((0)*3+0) (fun F ⟨⟨⟨⟨⟨⟨hGl,hR,hP,hR2,hP2⟩,hz3⟩,h44⟩,h53⟩,h61⟩,_⟩=>(Q9.of (n:=1) (sz:=3) hz3 rfl)) (by omega) rfl ME rfl)<|QK (QD rfl) ?_
    refine QY rfl (fun w F hF ⟨⟨⟨⟨⟨⟨hGl,hR,hP,hR2,hP2⟩,hz3⟩,h44⟩,h53⟩,h61⟩,_⟩=>Xia hF hGl hR hP hln hta.2.1 hta.2.2 hv24) (fun _=>?_)
    refine QK (QH rfl Xje ME)<|QK (Jk (n:=1) ((0)*3+1) (fun F ⟨⟨⟨⟨⟨⟨hGl,hR,hP,hR2,hP2⟩,hz3⟩,h44⟩,h53⟩,h61⟩,_⟩=>(Q9.of (n:=1) (sz:=3) hz3 rfl)) (by omega) rfl ME rfl)<|QK (QD rfl) ?_
    refine QY rfl (fun w F hF ⟨⟨⟨⟨⟨⟨⟨hGl,hR,hP,hR2,hP2⟩,hz3⟩,h44⟩,h53⟩,h61⟩,_⟩,_⟩=>Xia hF hGl hR2 hP2 hln2 htb.2.1 htb.2.2 hv24) (fun _=>?_)
    refine QK (QF rfl)<|QK (QF rfl)<|Q4<|QC<|J_sr<|JS_mv rfl<|JS_mv rfl ?_
    refine QU rfl (Q6 Qf) Qp VQ rfl rfl (fun b94=>?_)
    refine QI rfl (fun w F hF ⟨⟨⟨⟨⟨⟨⟨⟨⟨hGl,hR,hP,hR2,hP2⟩,hz3⟩,h44⟩,h53⟩,h61⟩,_⟩,_⟩,_⟩,hs94⟩=>OI (l:=[Xs (XB ps) v,Xs (XB qs) v]) hF (Q9.of (n:=2) (sz:=1) (cs:=List.map Qx [Xs (XB ps) v,Xs (XB qs) v]) hs94 rfl) (by decide)) (fun _=>?_)
    refine JS_as rfl<|JS_nt<|J_sr<|JS_as rfl<|QE<|QC ?_
    refine T3 (ι:=Ku) [(1,_),(2,_),(3,_),(7,_),(8,_),(9,_),(10,_),(11,_),(12,_),(13,_),(14,_)] (fun y1=>[(16,y1.1.v)]) (fun y1=>[]) (fun y1 F=>Xei F y1 (Qm [Xs (XB ps) v,Xs (XB qs) v]) (XC ((JG (XB ps))++(JG (XB qs))))) ⟨rfl,rfl,rfl,rfl,rfl,rfl,rfl,rfl,rfl,rfl,rfl,trivial⟩ ?_ ?_
    ·
     refine J_sr<|JS_mv rfl<|QA (QV rfl rfl rfl)<|QE<|QC ?_
     refine QR rfl (fun hc=>?_) (fun hc=>?_)
     ·
      have hb1:(Qm [Xs (XB ps) v,Xs (XB qs) v])=0:=by simpa using hc
      obtain ⟨he1,he2⟩:=K8 hb1
      have hA:=hlo he1
      have hB:=hlo2 he2
      have hAB:=hA.add hB
      have hal:=hA.Xir
      have hbl:=hB.Xir
      have hna8:=len8 hln hA
      have hnb8:=len8 hln2 hB
      refine QB<|QA (QH rfl Xi8 ME)<|QA (Jk (n:=1) ((0)*3+0) (fun F ⟨⟨⟨⟨⟨⟨⟨⟨⟨⟨hGl,hR,hP,hR2,hP2⟩,hz3⟩,h44⟩,h53⟩,h61⟩,_⟩,_⟩,_⟩,hs94⟩,_⟩=>(Q9.of (n:=1) (sz:=3) hz3 rfl)) (by omega) rfl ME rfl)<|QA (QH rfl Xje ME)<|QA (Jk (n:=1) ((0)*3+1) (fun F ⟨⟨⟨⟨⟨⟨⟨⟨⟨⟨hGl,hR,hP,hR2,hP2⟩,hz3⟩,h44⟩,h53⟩,h61⟩,_⟩,_⟩,_⟩,hs94⟩,_⟩=>(Q9.of (n:=1) (sz:=3) hz3 rfl)) (by omega) rfl ME rfl) ?_
      refine QI rfl (fun w F hF ⟨⟨⟨⟨⟨⟨⟨⟨⟨⟨hGl,hR,hP,hR2,hP2⟩,hz3⟩,h44⟩,h53⟩,h61⟩,_⟩,_⟩,_⟩,hs94⟩,_⟩=>(Xjy (N:=(v+1).toNat) (A:=(JG (XB ps))) (B:=(JG (XB qs))) hF hR hP hln hA.txt hR2 hP2 hln2 hB.txt hAB.1 hAB.2 ⟨by omega,by omega⟩).imp (fun c F h=>⟨c,rfl,fun F2 k=>(Xij (b:=(Qm [Xs (XB ps) v,Xs (XB qs) v])) h hAB.1 hAB.2 (by rw [List.length_append];omega)).le k⟩)) (fun c102=>?_)
      refine JS_as rfl<|QE ?_
      exact Jt (c102) ⟨rfl,rfl,rfl,rfl,rfl,rfl,rfl,rfl,rfl,rfl,rfl,rfl,trivial⟩ subl_r (fun F ⟨⟨⟨⟨⟨⟨⟨⟨⟨⟨⟨hGl,hR,hP,hR2,hP2⟩,hz3⟩,h44⟩,h53⟩,h61⟩,_⟩,_⟩,_⟩,hs94⟩,_⟩,h102⟩=>⟨⟨⟨⟨⟨⟨⟨⟨⟨⟨⟨hGl,hR,hP,hR2,hP2⟩,hz3⟩,h44⟩,h53⟩,h61⟩,trivial⟩,trivial⟩,trivial⟩,hs94⟩,trivial⟩,h102⟩)
     ·
      have hb1:(Qm [Xs (XB ps) v,Xs (XB qs) v])≠0:=by simpa using hc
      refine QP ?_
      exact Jt ((⟨none,0,0⟩,[])) ⟨rfl,rfl,rfl,rfl,rfl,rfl,rfl,rfl,rfl,rfl,rfl,rfl,trivial⟩ subl_r (fun F ⟨⟨⟨⟨⟨⟨⟨⟨⟨⟨hGl,hR,hP,hR2,hP2⟩,hz3⟩,h44⟩,h53⟩,h61⟩,_⟩,_⟩,_⟩,hs94⟩,_⟩=>⟨⟨⟨⟨⟨⟨⟨⟨⟨⟨⟨hGl,hR,hP,hR2,hP2⟩,hz3⟩,h44⟩,h53⟩,h61⟩,trivial⟩,trivial⟩,trivial⟩,hs94⟩,trivial⟩,Xei.none hb1⟩)
    ·intro y1
     simp only [List.cons_append,List.nil_append]
     refine QG<|J_sr<|JS_mv rfl<|JS_mv rfl<|JS_mv rfl<|JS_mv rfl ?_
     refine QI rfl (fun w F hF ⟨⟨⟨⟨⟨⟨⟨⟨⟨⟨⟨hGl,hR,hP,hR2,hP2⟩,hz3⟩,h44⟩,h53⟩,h61⟩,_⟩,_⟩,_⟩,hs94⟩,_⟩,hW1⟩=>Xig (c:=c44) (x:=y1) (b:=(Qm [Xs (XB ps) v,Xs (XB qs) v])) (l:=(XC ((JG (XB ps))++(JG (XB qs))))) hF h44 (Xlr (a:=(⟨⟨qa,na,ca⟩,ps⟩:Ku)) (b:=(⟨⟨qb,nb,cb⟩,qs⟩:Ku)) hv) (Xls (a:=(⟨⟨qa,na,ca⟩,ps⟩:Ku)) (b:=(⟨⟨qb,nb,cb⟩,qs⟩:Ku)) hv) hW1 (fun _=>YY _) (fun h=>Xj8 (k:=0) (fun t ht=>(((hlo (K8 h).1).add (hlo2 (K8 h).2)).1 t ht).2) ((hlo (K8 h).1).add (hlo2 (K8 h).2)).2) (fun h=>by have:=Vr ((JG (XB ps))++(JG (XB qs)));rw [List.length_append] at this;have:=(hlo (K8 h).1).Xir;have:=(hlo2 (K8 h).2).Xir;omega)) (fun _=>?_)
     refine QA (Yt rfl)<|QE<|QC ?_
     refine QR rfl (fun hc=>?_) (fun hc=>?_)
     ·exact absurd hc (by simp)
     ·
      refine QP<|QC<|J_sr<|QA (QH rfl Xjd JR)<|QA (Jk (n:=1) ((0)*3+2) (fun F ⟨⟨⟨⟨⟨⟨⟨⟨⟨⟨⟨⟨hGl,hR,hP,hR2,hP2⟩,hz3⟩,h44⟩,h53⟩,h61⟩,_⟩,_⟩,_⟩,hs94⟩,_⟩,hW1⟩,_⟩=>(Q9.of (n:=1) (sz:=3) hz3 rfl)) (by omega) rfl JR rfl) ?_
      refine QI rfl (fun w F hF ⟨⟨⟨⟨⟨⟨⟨⟨⟨⟨⟨⟨hGl,hR,hP,hR2,hP2⟩,hz3⟩,h44⟩,h53⟩,h61⟩,_⟩,_⟩,_⟩,hs94⟩,_⟩,hW1⟩,_⟩=>LU (s:=c) hF (by omega)) (fun _=>?_)
      refine JS_mv rfl ?_
      refine QU rfl (Q6 Qf) Qp VQ rfl rfl (fun b113=>?_)
      refine QI rfl (fun w F hF ⟨⟨⟨⟨⟨⟨⟨⟨⟨⟨⟨⟨⟨⟨hGl,hR,hP,hR2,hP2⟩,hz3⟩,h44⟩,h53⟩,h61⟩,_⟩,_⟩,_⟩,hs94⟩,_⟩,hW1⟩,_⟩,_⟩,hs113⟩=>OI (l:=[Jy c,Xs (XB ps) v]) hF (Q9.of (n:=2) (sz:=1) (cs:=List.map Qx [Jy c,Xs (XB ps) v]) hs113 rfl) (by decide)) (fun _=>?_)
      refine JS_as rfl<|QE<|QC ?_
      refine T3 (ι:=Ku) [(1,_),(2,_),(3,_),(9,_),(10,_),(11,_),(12,_),(13,_),(14,_)] (fun y2=>[(16,y2.1.v)]) (fun y2=>[]) (fun y2 F=>Xei F y2 (Qm [Jy c,Xs (XB ps) v]) (V1 (Ju c) (JG (XB ps)))) ⟨rfl,rfl,rfl,rfl,rfl,rfl,rfl,rfl,rfl,trivial⟩ ?_ ?_
      ·
       refine J_sr<|JS_mv rfl<|QA (QV rfl rfl rfl)<|QE<|QC ?_
       refine QR rfl (fun hc=>?_) (fun hc=>?_)
       ·
        have hb2:(Qm [Jy c,Xs (XB ps) v])=0:=by simpa using hc
        obtain ⟨hec,he1⟩:=K8 hb2
        have hA:=hlo he1
        have hyz:JL (Ju c)≤80:=q8 hec (k:=20) (by decide) hcl
        have hAS:=hA.scl hyz
        have hal:=hA.Xir
        have hna8:=len8 hln hA
        have hsl:=Xiw (y:=Ju c) hA.ok.can
        have hct:=(Zj hec).1
        refine QB<|QA (QH rfl Xjd JR)<|QA (Jk (n:=1) ((0)*3+2) (fun F ⟨⟨⟨⟨⟨⟨⟨⟨⟨⟨⟨⟨⟨⟨⟨hGl,hR,hP,hR2,hP2⟩,hz3⟩,h44⟩,h53⟩,h61⟩,_⟩,_⟩,_⟩,hs94⟩,_⟩,hW1⟩,_⟩,_⟩,hs113⟩,_⟩=>(Q9.of (n:=1) (sz:=3) hz3 rfl)) (by omega) rfl JR rfl)<|QA (QH rfl Xi8 ME)<|QA (Jk (n:=1) ((0)*3+0) (fun F ⟨⟨⟨⟨⟨⟨⟨⟨⟨⟨⟨⟨⟨⟨⟨hGl,hR,hP,hR2,hP2⟩,hz3⟩,h44⟩,h53⟩,h61⟩,_⟩,_⟩,_⟩,hs94⟩,_⟩,hW1⟩,_⟩,_⟩,hs113⟩,_⟩=>(Q9.of (n:=1) (sz:=3) hz3 rfl)) (by omega) rfl ME rfl) ?_
        refine QI rfl (fun w F hF ⟨⟨⟨⟨⟨⟨⟨⟨⟨⟨⟨⟨⟨⟨⟨hGl,hR,hP,hR2,hP2⟩,hz3⟩,h44⟩,h53⟩,h61⟩,_⟩,_⟩,_⟩,hs94⟩,_⟩,hW1⟩,_⟩,_⟩,hs113⟩,_⟩=>(show QS Tryz.prog 78 [tx c,.slice qa na ca] w F (fun(c:Ku)=>c.1.v) (fun y F=>Xei F y (Qm [Jy c,Xs (XB ps) v]) (V1 (Ju c) (JG (XB ps)))) from by
          have h:=(Xj3 (N:=(v+1).toNat) (L:=(JG (XB ps))) (y:=Ju c) (cap:=ca) hF hR hP hln hA.txt (by omega) (fun t ht=>Nat.le_trans (hA.sz t ht) (by decide)) hAS.1 hAS.2 (by omega)).imp (fun y F h=>⟨y,rfl,fun F2 k=>(Xij (b:=(Qm [Jy c,Xs (XB ps) v])) h hAS.1 hAS.2 (by unfold Xi7;rw [List.length_map];omega)).le k⟩)
          rw [← hct,hsl.2] at h
          exact h)) (fun c121=>?_)
        refine JS_as rfl<|QE ?_
        exact Jt (c121) ⟨rfl,rfl,rfl,rfl,rfl,rfl,rfl,rfl,rfl,rfl,trivial⟩ subl_r (fun F ⟨⟨⟨⟨⟨⟨⟨⟨⟨⟨⟨⟨⟨⟨⟨⟨hGl,hR,hP,hR2,hP2⟩,hz3⟩,h44⟩,h53⟩,h61⟩,_⟩,_⟩,_⟩,hs94⟩,_⟩,hW1⟩,_⟩,_⟩,hs113⟩,_⟩,h121⟩=>⟨⟨⟨⟨⟨⟨⟨⟨⟨⟨⟨⟨⟨⟨⟨⟨hGl,hR,hP,hR2,hP2⟩,hz3⟩,h44⟩,h53⟩,h61⟩,trivial⟩,trivial⟩,trivial⟩,hs94⟩,trivial⟩,hW1⟩,trivial⟩,trivial⟩,hs113⟩,trivial⟩,h121⟩)
       ·
        have hb2:(Qm [Jy c,Xs (XB ps) v])≠0:=by simpa using hc
        refine QP ?_
        exact Jt (y1) ⟨rfl,rfl,rfl,rfl,rfl,rfl,rfl,rfl,rfl,rfl,trivial⟩ subl_r (fun F ⟨⟨⟨⟨⟨⟨⟨⟨⟨⟨⟨⟨⟨⟨⟨hGl,hR,hP,hR2,hP2⟩,hz3⟩,h44⟩,h53⟩,h61⟩,_⟩,_⟩,_⟩,hs94⟩,_⟩,hW1⟩,_⟩,_⟩,hs113⟩,_⟩=>⟨⟨⟨⟨⟨⟨⟨⟨⟨⟨⟨⟨⟨⟨⟨⟨hGl,hR,hP,hR2,hP2⟩,hz3⟩,h44⟩,h53⟩,h61⟩,trivial⟩,trivial⟩,trivial⟩,hs94⟩,trivial⟩,hW1⟩,trivial⟩,trivial⟩,hs113⟩,trivial⟩,hW1.OM hb2⟩)
      ·intro y2
       simp only [List.cons_append,List.nil_append]
       refine QG<|J_sr<|JS_mv rfl<|JS_mv rfl<|JS_mv rfl<|JS_mv rfl ?_
       refine QI rfl (fun w F hF ⟨⟨⟨⟨⟨⟨⟨⟨⟨⟨⟨⟨⟨⟨⟨⟨hGl,hR,hP,hR2,hP2⟩,hz3⟩,h44⟩,h53⟩,h61⟩,_⟩,_⟩,_⟩,hs94⟩,_⟩,hW1⟩,_⟩,_⟩,hs113⟩,_⟩,hW2⟩=>Xig (c:=c53) (x:=y2) (b:=(Qm [Jy c,Xs (XB ps) v])) (l:=(V1 (Ju c) (JG (XB ps)))) hF h53 (Xlu hv) (Xlv hv) hW2 (fun h=>(Xiw (hlo (K8 h).2).ok.can).1) (fun h=>Xlp (hlo (K8 h).2) (K8 h).1 hcl) (fun h=>by have:=Up (Ju c) (JG (XB ps));have:=(hlo (K8 h).2).Xir;omega)) (fun _=>?_)
       refine QA (Yt rfl)<|QE<|QC ?_
       refine QR rfl (fun hc=>?_) (fun hc=>?_)
       ·exact absurd hc (by simp)
       ·
        refine QP<|QC ?_
        refine KZ [(2,_),(3,_),(11,_),(12,_),(16,_)] [(13,.int .i64 ((Qm [Xs (XB ps) v,vE x v])))] ⟨rfl,rfl,rfl,rfl,rfl,trivial⟩ ?_ ?_
        ·
         refine QB<|JS_mv rfl<|JS_mv rfl<|QA (QV rfl rfl rfl)<|JS_mv rfl ?_
         refine Qn (t:=131) rfl (fun hb131=>?_) (fun hb131=>?_)
         ·
          refine QO rfl rfl rfl<|QO rfl rfl rfl<|QO rfl rfl rfl<|QA (Qi rfl rfl rfl) ?_
          refine QI rfl (fun w F hF ⟨⟨⟨⟨⟨⟨⟨⟨⟨⟨⟨⟨⟨⟨⟨⟨⟨hGl,hR,hP,hR2,hP2⟩,hz3⟩,h44⟩,h53⟩,h61⟩,_⟩,_⟩,_⟩,hs94⟩,_⟩,hW1⟩,_⟩,_⟩,hs113⟩,_⟩,hW2⟩,_⟩=>CA hF) (fun _=>?_)
          rw [show(if true=true then(10:Int) else 0)=vE x v from by unfold vE;simp [hb131]]
          refine QU rfl (Q6 Qf) Qp VQ rfl rfl (fun b137=>?_)
          refine QI rfl (fun w F hF ⟨⟨⟨⟨⟨⟨⟨⟨⟨⟨⟨⟨⟨⟨⟨⟨⟨⟨⟨hGl,hR,hP,hR2,hP2⟩,hz3⟩,h44⟩,h53⟩,h61⟩,_⟩,_⟩,_⟩,hs94⟩,_⟩,hW1⟩,_⟩,_⟩,hs113⟩,_⟩,hW2⟩,_⟩,_⟩,hs137⟩=>OI (l:=[Xs (XB ps) v,vE x v]) hF (Q9.of (n:=2) (sz:=1) (cs:=List.map Qx [Xs (XB ps) v,vE x v]) hs137 rfl) (by decide)) (fun _=>?_)
          refine JS_as rfl<|QE ?_
          exact X0 ⟨rfl,rfl,rfl,rfl,rfl,rfl,trivial⟩ subl_r (fun _ h=>h.1.1.1)
         ·
          refine QL rfl rfl<|JS_mv rfl<|QL rfl rfl<|JS_mv rfl<|QL rfl rfl<|QA (QV rfl rfl rfl)<|QA (Qh rfl rfl rfl) ?_
          refine QI rfl (fun w F hF ⟨⟨⟨⟨⟨⟨⟨⟨⟨⟨⟨⟨⟨⟨⟨⟨⟨hGl,hR,hP,hR2,hP2⟩,hz3⟩,h44⟩,h53⟩,h61⟩,_⟩,_⟩,_⟩,hs94⟩,_⟩,hW1⟩,_⟩,_⟩,hs113⟩,_⟩,hW2⟩,_⟩=>CA hF) (fun _=>?_)
          rw [show(if decide (x>v)=true then(10:Int) else 0)=vE x v from by unfold vE;simp [hb131]]
          refine QU rfl (Q6 Qf) Qp VQ rfl rfl (fun b137=>?_)
          refine QI rfl (fun w F hF ⟨⟨⟨⟨⟨⟨⟨⟨⟨⟨⟨⟨⟨⟨⟨⟨⟨⟨⟨hGl,hR,hP,hR2,hP2⟩,hz3⟩,h44⟩,h53⟩,h61⟩,_⟩,_⟩,_⟩,hs94⟩,_⟩,hW1⟩,_⟩,_⟩,hs113⟩,_⟩,hW2⟩,_⟩,_⟩,hs137⟩=>OI (l:=[Xs (XB ps) v,vE x v]) hF (Q9.of (n:=2) (sz:=1) (cs:=List.map Qx [Xs (XB ps) v,vE x v]) hs137 rfl) (by decide)) (fun _=>?_)
          refine JS_as rfl<|QE ?_
          exact X0 ⟨rfl,rfl,rfl,rfl,rfl,rfl,trivial⟩ subl_r (fun _ h=>h.1.1.1)
        ·
         simp only [List.cons_append,List.nil_append]
         refine T3 (ι:=Ku) [(11,_),(12,_),(13,_)] (fun y3=>[(16,y3.1.v)]) (fun y3=>[]) (fun y3 F=>Xei F y3 (Qm [Xs (XB ps) v,vE x v]) (XC (KS x.toNat (JG (XB ps))))) ⟨rfl,rfl,rfl,trivial⟩ ?_ ?_
         ·
          refine J_sr<|JS_mv rfl<|QA (QV rfl rfl rfl)<|QE<|QC ?_
          refine QR rfl (fun hc=>?_) (fun hc=>?_)
          ·
           have hb3:(Qm [Xs (XB ps) v,vE x v])=0:=by simpa using hc
           obtain ⟨he1,hve⟩:=K8 hb3
           have hA:=hlo he1
           have hx:=qy hve
           have hAD:=hA.der (i:=x.toNat) (by omega)
           have hal:=hA.Xir
           have hna8:=len8 hln hA
           refine QB<|QA (QH rfl Xi8 ME)<|QA (Jk (n:=1) ((0)*3+0) (fun F ⟨⟨⟨⟨⟨⟨⟨⟨⟨⟨⟨⟨⟨⟨⟨⟨⟨hGl,hR,hP,hR2,hP2⟩,hz3⟩,h44⟩,h53⟩,h61⟩,_⟩,_⟩,_⟩,hs94⟩,_⟩,hW1⟩,_⟩,_⟩,hs113⟩,_⟩,hW2⟩,_⟩=>(Q9.of (n:=1) (sz:=3) hz3 rfl)) (by omega) rfl ME rfl)<|JS_mv rfl ?_
           refine QI rfl (fun w F hF ⟨⟨⟨⟨⟨⟨⟨⟨⟨⟨⟨⟨⟨⟨⟨⟨⟨hGl,hR,hP,hR2,hP2⟩,hz3⟩,h44⟩,h53⟩,h61⟩,_⟩,_⟩,_⟩,hs94⟩,_⟩,hW1⟩,_⟩,_⟩,hs113⟩,_⟩,hW2⟩,_⟩=>(show QS Tryz.prog 79 [.slice qa na ca,.int .i64 x] w F (fun(c:Ku)=>c.1.v) (fun y F=>Xei F y (Qm [Xs (XB ps) v,vE x v]) (XC (KS x.toNat (JG (XB ps))))) from by
             have h:=(Xiv (N:=(v+1).toNat) (v:=x.toNat) (L:=(JG (XB ps))) (cap:=ca) hF hR hP hln hA.txt (by omega) hA.wp (fun t ht=>Nat.le_trans (hA.sz t ht) (by decide)) hAD.1 hAD.2 (by omega)).imp (fun y F h=>⟨y,rfl,fun F2 k=>(Xij (b:=(Qm [Xs (XB ps) v,vE x v])) h hAD.1 hAD.2 (by have:=NC x.toNat (JG (XB ps));omega)).le k⟩)
             rw [Int.toNat_of_nonneg hx.1] at h
             exact h)) (fun c144=>?_)
           refine JS_as rfl<|QE ?_
           exact Jt (c144) ⟨rfl,rfl,rfl,rfl,trivial⟩ subl_r (fun F ⟨⟨⟨⟨⟨⟨⟨⟨⟨⟨⟨⟨⟨⟨⟨⟨⟨⟨hGl,hR,hP,hR2,hP2⟩,hz3⟩,h44⟩,h53⟩,h61⟩,_⟩,_⟩,_⟩,hs94⟩,_⟩,hW1⟩,_⟩,_⟩,hs113⟩,_⟩,hW2⟩,_⟩,h144⟩=>⟨⟨⟨⟨⟨⟨⟨⟨⟨⟨⟨⟨⟨⟨⟨⟨⟨⟨hGl,hR,hP,hR2,hP2⟩,hz3⟩,h44⟩,h53⟩,h61⟩,trivial⟩,trivial⟩,trivial⟩,hs94⟩,trivial⟩,hW1⟩,trivial⟩,trivial⟩,hs113⟩,trivial⟩,hW2⟩,trivial⟩,h144⟩)
          ·
           have hb3:(Qm [Xs (XB ps) v,vE x v])≠0:=by simpa using hc
           refine QP ?_
           exact Jt (y2) ⟨rfl,rfl,rfl,rfl,trivial⟩ subl_r (fun F ⟨⟨⟨⟨⟨⟨⟨⟨⟨⟨⟨⟨⟨⟨⟨⟨⟨hGl,hR,hP,hR2,hP2⟩,hz3⟩,h44⟩,h53⟩,h61⟩,_⟩,_⟩,_⟩,hs94⟩,_⟩,hW1⟩,_⟩,_⟩,hs113⟩,_⟩,hW2⟩,_⟩=>⟨⟨⟨⟨⟨⟨⟨⟨⟨⟨⟨⟨⟨⟨⟨⟨⟨⟨hGl,hR,hP,hR2,hP2⟩,hz3⟩,h44⟩,h53⟩,h61⟩,trivial⟩,trivial⟩,trivial⟩,hs94⟩,trivial⟩,hW1⟩,trivial⟩,trivial⟩,hs113⟩,trivial⟩,hW2⟩,trivial⟩,hW2.OM hb3⟩)
         ·intro y3
          simp only [List.cons_append,List.nil_append]
          refine J_sr<|JS_mv rfl<|JS_mv rfl<|JS_mv rfl<|JS_mv rfl ?_
          refine QI rfl (fun w F hF ⟨⟨⟨⟨⟨⟨⟨⟨⟨⟨⟨⟨⟨⟨⟨⟨⟨⟨hGl,hR,hP,hR2,hP2⟩,hz3⟩,h44⟩,h53⟩,h61⟩,_⟩,_⟩,_⟩,hs94⟩,_⟩,hW1⟩,_⟩,_⟩,hs113⟩,_⟩,hW2⟩,_⟩,hW3⟩=>Xig (c:=c61) (x:=y3) (b:=(Qm [Xs (XB ps) v,vE x v])) (l:=(XC (KS x.toNat (JG (XB ps))))) hF h61 (Xly (a:=(⟨⟨qa,na,ca⟩,ps⟩:Ku)) hv) (Xlz (a:=(⟨⟨qa,na,ca⟩,ps⟩:Ku)) hv) hW3 (fun _=>YY _) (fun h=>Xj8 (k:=0) (fun t ht=>(((hlo (K8 h).1).der (i:=x.toNat) (by have:=qy (K8 h).2;omega)).1 t ht).2) ((hlo (K8 h).1).der (i:=x.toNat) (by have:=qy (K8 h).2;omega)).2) (fun h=>by have:=Vr (KS x.toNat (JG (XB ps)));have:=NC x.toNat (JG (XB ps));have:=(hlo (K8 h).1).Xir;omega)) (fun _=>?_)
          refine JS_as rfl<|JS_nt<|QT ?_
          exact QQ (()) rfl (.tmp rfl .nil) (rfl) (fun F ⟨⟨⟨⟨⟨⟨⟨⟨⟨⟨⟨⟨⟨⟨⟨⟨⟨⟨⟨hGl,hR,hP,hR2,hP2⟩,hz3⟩,h44⟩,h53⟩,h61⟩,_⟩,_⟩,_⟩,hs94⟩,_⟩,hW1⟩,_⟩,_⟩,hs113⟩,_⟩,hW2⟩,_⟩,hW3⟩,_⟩=>trivial)
end
end Go.Proofs.YtknegjaeoffnbaaGreatDoor
