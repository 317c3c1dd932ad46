/- Steps of the proof of the theorem in the last file. -/
import Derived.Test.YtknegjaeoffnbaaGreatDoorQ0
import Derived.Test.YtknegjaeoffnbaaGreatDoorProg
import Derived.KernelRfl
set_option linter.all false
set_option maxHeartbeats 4000000
namespace Go.Proofs.YtknegjaeoffnbaaGreatDoor
section
theorem En:GU Tryz.prog 22=true:=by kernel_rfl
theorem Xfp:H2 Tryz.prog 51=some 122:=by kernel_rfl
theorem uf:YJ Tryz.prog 130=some 64:=by kernel_rfl
end
section
open Go.RowKit Go.ChangeShapes Go.WideShapes Ig
theorem Ow {α:Type} {f:α→List Value} {k off:Nat} {c:Array Value} (hf:∀ x,(f x).length=k):∀ (l:List α) (i0:Nat),(∀ i x,l[i]?=some x→∀ j,j<k→c[off+(i0+i)*k+j]?=(f x)[j]?)→∀ p u,(l.flatMap f)[p]?=some u→c[off+i0*k+p]?=some u
 |[],_,_,p,u,e=>by simp at e
 |x::l,i0,h,p,u,e=>by
  rw [List.flatMap_cons] at e
  rcases Nat.lt_or_ge p k with g | g
  ·rw [List.getElem?_append_left (by rw [hf];exact g)] at e
   have:=h 0 x rfl p g
   rw [Nat.add_zero] at this
   rw [this,e]
  ·rw [List.getElem?_append_right (by rw [hf];exact g),hf] at e
   have:=Ow hf l (i0+1) (fun i y hy j hj=>by
    have:=h (i+1) y (by simpa using hy) j hj
    rwa [show i0+(i+1)=i0+1+i by omega] at this) (p - k) u e
   rwa [show off+(i0+1)*k+(p - k)=off+i0*k+p by rw [Nat.add_mul,Nat.one_mul];omega] at this
theorem xe {b off n:Nat}:(⟨b,off,none⟩:Addr).add n=⟨b,off+n,none⟩:=by
 unfold Addr.add
 split
 ·rename_i h;rw [h,Nat.add_zero]
 ·rfl
section
variable {H:Type} {enc:TypeId×Value→H} {w:World}
theorem Ck {a:Addr} {n:Nat} {cs:List Value} (h:w.cells? 0 a n=some cs):cs.length=n∧∀ i,i<n→w.cell? (a.add i)=cs[i]?:=by
 unfold World.cells? at h
 rw [if_pos (Nat.zero_le _)] at h
 exact⟨by simpa using mapM_some_length h,fun i hi=>by simpa using mapM_some_get h i i (by simp [hi])⟩
theorem CZ {fuel:Nat} {cs:List Value} {x:DataW H×List MemPlace} {t e:TypeId} {sz:Nat} {α:Type} {f:α→List Value} {Q:α→Prop} (ht:Tryz.prog.underlying t=some (.slice e)) (hc:Tryz.prog.cellsOf e=sz) (h0:0<sz) (hf:∀ x,(f x).length=sz)
  (hel:∀ (n:Nat) (cs:List Value) (x:DataW H×List MemPlace),DataW.trod enc Tryz.prog w 0 (fun _=>true) true n e cs=some x→∃ y,cs=f y∧Q y)
  (hh:DataW.trod enc Tryz.prog w 0 (fun _=>true) true fuel t cs=some x) :
  ∃ (q:Option Addr) (n cap:Nat) (l:List α),cs=[.slice q n cap]∧Q4 (Wb w) q n sz (l.flatMap f)∧l.length=n∧n≤9223372036854775807∧(∀ y∈l,Q y)∧n≤cap:=by
 rcases DataW.trod_slice ht hh with ⟨e0,_⟩ | ⟨a',len,cap,elems,rest,n,_,e0,_,_,h1,h2,hlen,hg,_,_⟩
 ·exact⟨none,0,0,[],e0,Q4.nil _ _ _,rfl,Nat.zero_le _,fun y hy=>(by cases hy),Nat.le_refl _⟩
 ·subst e0
  rw [hc] at hg
  have key:∀ i,i<len→∃ y:α,w.cells? 0 (a'.add (i*sz)) sz=some (f y)∧Q y:=fun i hi=>by
   have e:=hg i hi
   rw [List.getElem?_eq_getElem (by omega),Option.bind_eq_some_iff] at e
   obtain ⟨cs,hcs,htr⟩:=e
   obtain ⟨y,rfl,hq⟩:=hel _ _ _ htr
   exact⟨y,hcs,hq⟩
  have hm:len≤9223372036854775807:=by have:=h2;unfold maxLen at this;omega
  have build:∀ m,m≤len→∃ l:List α,l.length=m∧(∀ i x,l[i]?=some x→w.cells? 0 (a'.add (i*sz)) sz=some (f x))∧∀ y∈l,Q y:=by
   intro m
   induction m with
   |zero=>exact fun _=>⟨[],rfl,fun i x e=>by simp at e,fun y hy=>by cases hy⟩
   |succ m ih =>
    intro hm'
    obtain ⟨l,hl,hx,hQ⟩:=ih (by omega)
    obtain ⟨y,hy,hq⟩:=key m (by omega)
    refine⟨l++[y],by simp [hl],fun i x e=>?_,fun z hz=>by rcases List.mem_append.1 hz with hz | hz;exact hQ z hz;rw [List.mem_singleton.1 hz];exact hq⟩
    rcases Nat.lt_or_ge i m with g | g
    ·rw [List.getElem?_append_left (by omega)] at e;exact hx i x e
    ·have:i=m:=by
      have:=(List.getElem?_eq_some_iff.1 e).1
      simp at this;omega
     subst this
     rw [List.getElem?_append_right (by omega),hl,Nat.sub_self] at e
     simp only [List.getElem?_cons_zero,Option.some.injEq] at e
     rw [← e];exact hy
  obtain ⟨l,hl,hx,hQ⟩:=build len (Nat.le_refl _)
  refine⟨some a',len,cap,l,rfl,⟨?_,fun hn=>?_⟩,hl,hm,hQ,h1⟩
  ·rw [List.length_flatMap]
   have:∀ l:List α,(l.map fun x=>(f x).length).sum=l.length*sz:=fun l=>by
    induction l with
    |nil=>simp
    |cons x l ih=>rw [List.map_cons,List.sum_cons,ih,hf,List.length_cons,Nat.add_mul];omega
   rw [this,hl]
  ·have c0:=hx 0 (l[0]'(by omega)) (List.getElem?_eq_getElem _)
   have g0:=(Ck c0).2 0 h0
   have hs:(f (l[0]'(by omega)))[0]?=some ((f (l[0]'(by omega)))[0]'(by rw [hf];exact h0)):=List.getElem?_eq_getElem _
   rw [hs,Nat.zero_mul] at g0
   have ea:(a'.add 0).add 0=a':=rfl
   rw [ea] at g0
   obtain ⟨b',off,spot⟩:=a'
   unfold World.cell? at g0
   split at g0
   ·rename_i c T fr hheap
    split at g0
    ·cases g0
    ·rename_i hsp
     have:spot=none:=by cases spot with
      |none=>rfl
      |some s=>simp at hsp
     subst this
     refine⟨b',off,c,T,rfl,by unfold Wb;rw [hheap],fun j u hu=>?_⟩
     have:=Ow (off:=off) (c:=c) hf l 0 (fun i x e j hj=>?_) j u hu
     ·rwa [Nat.zero_mul,Nat.add_zero] at this
     ·have:=(Ck (hx i x e)).2 j hj
      rw [xe,xe] at this
      unfold World.cell? at this
      rw [hheap] at this
      simpa using this
   ·cases g0
set_option maxRecDepth 100000 in
theorem Xet {b:Nat} {v:Value} {d:DataW H} {p:List MemPlace} {t e:TypeId} {sz:Nat} {α:Type} {f:α→List Value} {Q:α→Prop} (ht:Tryz.prog.underlying t=some (.slice e)) (hc:Tryz.prog.cellsOf e=sz) (h0:0<sz) (hf:∀ x,(f x).length=sz)
  (hel:∀ (n:Nat) (cs:List Value) (x:DataW H×List MemPlace),DataW.trod enc Tryz.prog w 0 (fun _=>true) true n e cs=some x→∃ y,cs=f y∧Q y)
  (hv:Value.okWide Tryz.prog w .any b t v) (h:DataW.Trod enc Tryz.prog w 0 (fun _=>true) true t v d p) :
  ∃ (q:Option Addr) (n cap:Nat) (l:List α),v = .slice q n cap∧Q4 (Wb w) q n sz (l.flatMap f)∧l.length=n∧n≤9223372036854775807∧∀ y∈l,Q y:=by
 obtain ⟨a,len,cap,rfl⟩:=okWide_slice ht hv
 obtain ⟨fuel,hh⟩:=h
 obtain ⟨q,n,cap',l,e0,h1,h2,h3,h4,_⟩:=CZ ht hc h0 hf hel hh
 have e0:[Value.slice a len cap]=[.slice q n cap']:=e0
 simp only [List.cons.injEq,Value.slice.injEq,and_true] at e0
 obtain ⟨rfl,rfl,rfl⟩:=e0
 exact⟨a,len,cap,l,rfl,h1,h2,h3,h4⟩
set_option maxRecDepth 100000 in
theorem open_row {b:Nat} {v:Value} {d:DataW H} {p:List MemPlace} {t e:TypeId} {sz:Nat} {α:Type} {f:α→List Value} (ht:Tryz.prog.underlying t=some (.slice e)) (hc:Tryz.prog.cellsOf e=sz) (h0:0<sz) (hf:∀ x,(f x).length=sz)
  (hel:∀ (n:Nat) (cs:List Value) (x:DataW H×List MemPlace),DataW.trod enc Tryz.prog w 0 (fun _=>true) true n e cs=some x→∃ y,cs=f y)
  (hv:Value.okWide Tryz.prog w .any b t v) (h:DataW.Trod enc Tryz.prog w 0 (fun _=>true) true t v d p) :
  ∃ (q:Option Addr) (n cap:Nat) (l:List α),v = .slice q n cap∧Q4 (Wb w) q n sz (l.flatMap f)∧l.length=n∧n≤9223372036854775807:=by
 obtain ⟨q,n,cap,l,h1,h2,h3,h4,_⟩:=Xet (Q:=fun _=>True) ht hc h0 hf (fun n cs x hx=>by obtain ⟨y,hy⟩:=hel n cs x hx;exact⟨y,hy,trivial⟩) hv h
 exact⟨q,n,cap,l,h1,h2,h3,h4⟩
end
end
section
open Go.RowKit Ig
def Xes (a b:Rat×Rat):Rat×Rat:=(a.1+b.1,a.2+b.2)
end
section
open Go.RowKit Ig
theorem Ca {w:World} {F:Gs} {s:List UInt8} (hF:Fits F w) (hl:s.length≤9223372036854775807):Qc Tryz.prog 175 [tx s] w F (.bool (XH s)):=by
 refine QT.intro (G:=fun _=>True) Tryz.func175 rfl (by rfl) rfl rfl hF (fun F' hF'=>trivial)<|J_sr<|JS_as rfl<|JS_nt<|QG<|J_sr<|JS_as rfl<|JS_nt<|QX<|Xa (ι:=Hv s.length (fun i=>(s.take i).all UQ=true)) (fun i=>[(0,tx s),(3,.int .i64 i.i)]) (fun _=>[]) (fun _ _=>True) (fun i=>s.length - i.i) ⟨0,Nat.zero_le _,rfl⟩ ⟨rfl,rfl,trivial⟩ subl_r (fun _ h=>trivial) (fun i=>?_)
 have hle:=i.le
 refine QG<|J_sr<|JS_mv rfl<|JS_mv rfl<|QA (XA rfl Xn)<|QA (QU rfl rfl rfl)<|QE<|QC ?_
 refine QP rfl (fun hc=>?_) (fun hc=>?_)
 ·
  have hi:i.i<s.length:=by simp at hc;omega
  clear hc
  refine QO<|QC<|QG<|QX<|J_sr<|JS_mv rfl<|JS_mv rfl<|QA (Vw rfl rfl Xn (hi))<|QA (QU rfl rfl rfl)<|JS_mv rfl ?_
  refine Qn (t:=14) rfl (fun hb14=>?_) (fun hb14=>?_)
  ·
   refine QN rfl rfl rfl<|QN rfl rfl rfl<|QN rfl rfl rfl<|QN rfl rfl rfl<|QA (Qj rfl rfl rfl)<|JS_nt<|Wu rfl<|J_sr<|JS_as rfl<|JS_nt<|QS ?_
   repeat (first | refine JE ?_ | refine Q3 ?_)
   exact QR () rfl (.tmp rfl .nil) (congrArg Value.bool (by rw [Rq hi (by have h1:=dec_t hb14;cases hd:UQ s[i.i] with | false=>rfl | true=>(have:=Ye.1 hd;omega))])) (fun _ _=>trivial)
  ·
   refine QJ rfl rfl<|JS_mv rfl<|QJ rfl rfl<|JS_mv rfl<|QJ rfl rfl<|QA (Vw rfl rfl Xn (hi))<|QJ rfl rfl<|QA (QU rfl rfl rfl)<|QA (Qh rfl rfl rfl)<|QE<|QC ?_
   refine QP rfl (fun hc=>?_) (fun hc=>?_)
   ·
    refine J_sr<|JS_as rfl<|JS_nt<|QS ?_
    repeat (first | refine JE ?_ | refine Q3 ?_)
    exact QR () rfl (.tmp rfl .nil) (congrArg Value.bool (by rw [Rq hi (by have h1:=dec_t hc;cases hd:UQ s[i.i] with | false=>rfl | true=>(have:=Ye.1 hd;omega))])) (fun _ _=>trivial)
   ·
    refine QO<|Qk<|QC<|QB<|JS_mv rfl<|QA (Qp rfl rfl (by omega))<|JS_as rfl<|QE ?_
    exact Ql (⟨i.i+1,by omega,Dt hi i.h (Ye.2 (by have h1:=dec_f hb14;have h2:=dec_f hc;constructor<;>omega))⟩:Hv s.length (fun i=>(s.take i).all UQ=true)) (by show s.length - (i.i+1)<s.length - i.i;omega) ⟨rfl,rfl,trivial⟩ subl_r (fun _ h=>trivial)
 ·
  refine Qy ?_
  repeat (first | refine QZ ?_ | refine QV (by rfl) ?_)
  refine Qa<|QC<|J_sr<|JS_as rfl<|JS_nt<|QS ?_
  exact QR () rfl (.tmp rfl .nil) (congrArg Value.bool (by have e:=i.h;rw [List.take_of_length_le (by simp at hc;omega)] at e;exact e)) (fun _ _=>trivial)
theorem gO {s:List UInt8} (h1:(1:Int)<(s.length:Int)) (h:s[0]'(by omega)=48):XU s=false:=by
 cases s with
 |nil=>simp at h1
 |cons c r =>
  have hc:c=48:=h
  subst hc
  have hr:r≠[]:=by intro e;subst e;simp at h1
  simp [XU,hr]
theorem kN {s:List UInt8} (h1:(1:Int)<(s.length:Int)) (h:¬ s[0]'(by omega)=48):XU s=XH s:=by
 cases s with
 |nil=>simp at h1
 |cons c r =>
  have hc:¬ c=48:=h
  simp [XU,hc]
theorem gN {s:List UInt8} (h0:0<s.length) (h1:s.length≤1):XU s=XH s:=by
 match s,h0,h1 with
 |[c],_,_ =>
  by_cases hc:c=48
  ·subst hc;rfl
  ·simp [XU,hc]
theorem yi {w:World} {F:Gs} {s:List UInt8} (hF:Fits F w) (hl:s.length≤9223372036854775807):Qc Tryz.prog 118 [tx s] w F (.bool (XU s)):=by
 refine QT.intro (G:=fun _=>True) Tryz.func118 rfl (by rfl) rfl rfl hF (fun F' hF'=>trivial)<|J_sr<|JS_as rfl<|JS_nt<|QG<|J_sr<|JS_mv rfl<|QA (XA rfl Xn)<|QA (QU rfl rfl rfl)<|JS_mv rfl ?_
 refine Qn (t:=6) rfl (fun hb6=>?_) (fun hb6=>?_)
 ·
  refine QN rfl rfl rfl<|QN rfl rfl rfl<|QN rfl rfl rfl<|QN rfl rfl rfl<|JU rfl rfl<|JU rfl rfl<|JU rfl rfl<|QN rfl rfl rfl<|QA (Qj rfl rfl rfl)<|JS_nt<|Wu rfl<|J_sr<|JS_as rfl<|JS_nt<|QS ?_
  exact QR () rfl (.tmp rfl .nil) (congrArg Value.bool (by have h0:s=[]:=(by simpa using hb6);subst h0;rfl)) (fun _ _=>trivial)
 ·
  refine QJ rfl rfl<|JS_mv rfl<|QJ rfl rfl<|QA (XA rfl Xn)<|QJ rfl rfl<|QA (QU rfl rfl rfl)<|QJ rfl rfl<|JS_mv rfl ?_
  refine Qn (t:=10) rfl (fun hb10=>?_) (fun hb10=>?_)
  ·
   refine QJ rfl rfl<|JS_mv rfl<|QJ rfl rfl<|QA (Vw (i:=0) rfl rfl Xn (by have:=dec_t hb10;omega))<|QJ rfl rfl<|QA (QU rfl rfl rfl)<|QJ rfl rfl<|QA (Qj rfl rfl rfl)<|QA (Qh rfl rfl rfl)<|QE<|QC ?_
   refine QP rfl (fun hc=>?_) (fun hc=>?_)
   ·
    refine J_sr<|JS_as rfl<|JS_nt<|QS ?_
    exact QR () rfl (.tmp rfl .nil) (congrArg Value.bool (gO (dec_t hb10) (by have h:=hc;rw [Em (d:=48) (z:=48) rfl] at h;simpa using h))) (fun _ _=>trivial)
   ·
    refine QO<|QC<|J_sr<|JS_mv rfl<|QH rfl (fun w F hF _=>Ca hF hl) (fun _=>JS_as rfl<|JS_nt<|QS ?_)
    exact QR () rfl (.tmp rfl .nil) (congrArg Value.bool (kN (dec_t hb10) (by have h:=hc;rw [Em (d:=48) (z:=48) rfl] at h;simpa using h))) (fun _ _=>trivial)
  ·
   refine QN rfl rfl rfl<|QN rfl rfl rfl<|QN rfl rfl rfl<|QJ rfl rfl<|QA (Qh rfl rfl rfl)<|QA (Qh rfl rfl rfl)<|JS_nt<|YF rfl<|QO<|QC<|J_sr<|JS_mv rfl<|QH rfl (fun w F hF _=>Ca hF hl) (fun _=>JS_as rfl<|JS_nt<|QS ?_)
   exact QR () rfl (.tmp rfl .nil) (congrArg Value.bool (gN (List.length_pos_iff.2 (by simpa using hb6)) (by have h:=dec_f hb10;omega))) (fun _ _=>trivial)
end
section
open Go.RowKit Ig
def zT (s:List UInt8):List UInt8:=if Nv s<0 then s.drop 1 else if Nv s=0 then s else 45::s
def Wi (s:List UInt8):Int:=if(decide (600<(CT (numOf s)).length)||decide (600<(UU s).length))=true then 4 else 0
theorem Bz (p:UInt8→Bool) (s:List UInt8):ahead p s≤s.length:=(List.takeWhile_sublist _).length_le
theorem Ap {s:List UInt8} (h:Nv s<0):0<s.length:=by
 cases s with
 |nil=>exact absurd h (by decide)
 |cons=>simp
theorem LG {w:World} {F:Gs} {s:List UInt8} (hF:Fits F w):Qc Tryz.prog 38 [tx s] w F (.int .i64 (Nv s)):=by
 refine QT.intro (G:=fun _=>True) Tryz.func38 rfl (by rfl) rfl rfl hF (fun F' hF'=>trivial)<|J_sr<|JS_as rfl<|JS_nt<|QG<|J_sr<|JS_mv rfl<|QA (KY rfl rfl)<|QE<|QC ?_
 refine QP rfl (fun hc4=>?_) (fun hc4=>?_)
 ·
  refine J_sr<|JS_as rfl<|JS_nt<|QS ?_
  exact QR () rfl (.tmp rfl .nil) (congrArg (Value.int .i64) (by unfold Nv;rw [if_pos (by simpa using hc4)])) (fun _ _=>trivial)
 ·
  refine QO<|QC<|QG<|J_sr<|JS_mv rfl<|QA (XA rfl En)<|QA (QU rfl rfl rfl)<|JS_mv rfl ?_
  refine Qn (t:=8) rfl (fun hb8=>?_) (fun hb8=>?_)
  ·
   refine QJ rfl rfl<|JS_mv rfl<|QJ rfl rfl<|QA (Vw (i:=0) rfl rfl En (by have:=dec_t hb8;omega))<|QJ rfl rfl<|QA (QU rfl rfl rfl)<|QA (Qj rfl rfl rfl)<|QE<|QC ?_
   refine QP rfl (fun hc=>?_) (fun hc=>?_)
   ·
    refine J_sr<|JS_as rfl<|JS_nt<|QS ?_
    exact QR () rfl (.tmp rfl .nil) (congrArg (Value.int .i64) (by unfold Nv;rw [if_neg (by simpa using hc4),if_pos];rw [W6 (by have:=dec_t hb8;omega),← Em (z:=45) rfl];exact hc)) (fun _ _=>trivial)
   ·
    refine QO<|QC<|J_sr<|JS_as rfl<|JS_nt<|QS ?_
    exact QR () rfl (.tmp rfl .nil) (congrArg (Value.int .i64) (by unfold Nv;rw [if_neg (by simpa using hc4),if_neg];rw [W6 (by have:=dec_t hb8;omega),← Em (z:=45) rfl,hc];decide)) (fun _ _=>trivial)
  ·
   refine QN rfl rfl rfl<|QN rfl rfl rfl<|QN rfl rfl rfl<|QA (Qh rfl rfl rfl)<|JS_nt<|YF rfl<|QO<|QC<|J_sr<|JS_as rfl<|JS_nt<|QS ?_
   exact QR () rfl (.tmp rfl .nil) (congrArg (Value.int .i64) (by have h0:s=[]:=(by have:=hb8;simp at this;exact this);subst h0;rfl)) (fun _ _=>trivial)
theorem uI {w:World} {F:Gs} {s:List UInt8} (hF:Fits F w) (hl:s.length≤1000000000):Qc Tryz.prog 35 [tx s] w F (tx (zT s)):=by
 refine QT.intro (G:=fun _=>True) Tryz.func35 rfl (by rfl) rfl rfl hF (fun F' hF'=>trivial)<|J_sr<|JS_as rfl<|JS_nt<|QG<|J_sr<|JS_mv rfl<|QH rfl (fun w F hF _=>LG hF ) (fun _=>QA (QU rfl rfl rfl)<|QE<|QC ?_)
 refine QP rfl (fun hc5=>?_) (fun hc5=>?_)
 ·
  refine J_sr<|JS_mv rfl<|QA (Kr 1 rfl rfl En rfl (Ap (dec_t hc5)))<|JS_as rfl<|JS_nt<|QS ?_
  exact QR () rfl (.tmp rfl .nil) (congrArg tx (by unfold zT;rw [if_pos (dec_t hc5)])) (fun _ _=>trivial)
 ·
  refine QO<|QC<|QG<|J_sr<|JS_mv rfl<|QH rfl (fun w F hF h9=>LG hF ) (fun _=>QA (QU rfl rfl rfl)<|QE<|QC ?_)
  refine QP rfl (fun hc10=>?_) (fun hc10=>?_)
  ·
   refine J_sr<|JS_mv rfl<|JS_as rfl<|JS_nt<|QS ?_
   exact QR () rfl (.tmp rfl .nil) (congrArg tx (by unfold zT;rw [if_neg (dec_f hc5),if_pos (by simpa using hc10)])) (fun _ _=>trivial)
  ·
   refine QO<|QC<|J_sr<|JS_mv rfl<|QA (Zf rfl rfl (by simp;omega))<|JS_as rfl<|JS_nt<|QS ?_
   exact QR () rfl (.tmp rfl .nil) (congrArg tx (by unfold zT;rw [if_neg (dec_f hc5),if_neg (by simpa using hc10)];rfl)) (fun _ _=>trivial)
theorem zC {w:World} {F:Gs} {s:List UInt8} (hF:Fits F w):Qc Tryz.prog 33 [tx s] w F (tx (CT s)):=by
 refine QT.intro (G:=fun _=>True) Tryz.func33 rfl (by rfl) rfl rfl hF (fun F' hF'=>trivial)<|J_sr<|JS_as rfl<|JS_nt<|QG<|J_sr<|JS_mv rfl<|QH rfl (fun w F hF _=>LG hF ) (fun _=>QA (QU rfl rfl rfl)<|QE<|QC ?_)
 refine QP rfl (fun hc=>?_) (fun hc=>?_)
 ·
  refine J_sr<|JS_mv rfl<|QA (Kr 1 rfl rfl En rfl (Ap (dec_t hc)))<|JS_as rfl<|JS_nt<|QS ?_
  exact QR () rfl (.tmp rfl .nil) (congrArg tx (by unfold CT;rw [if_pos (dec_t hc)])) (fun _ _=>trivial)
 ·
  refine QO<|QC<|J_sr<|JS_mv rfl<|JS_as rfl<|JS_nt<|QS ?_
  exact QR () rfl (.tmp rfl .nil) (congrArg tx (by unfold CT;rw [if_neg (dec_f hc)])) (fun _ _=>trivial)
theorem dU {w:World} {F:Gs} {s:List UInt8} (hF:Fits F w):Qc Tryz.prog 94 [tx s] w F (.bool (s==[48])):=by
 refine QT.intro (G:=fun _=>True) Tryz.func94 rfl (by rfl) rfl rfl hF (fun F' hF'=>trivial)<|J_sr<|JS_as rfl<|JS_nt<|J_sr<|JS_mv rfl<|QA (KY rfl rfl)<|JS_as rfl<|JS_nt<|QS ?_
 exact QR () rfl (.tmp rfl .nil) (rfl) (fun _ _=>trivial)
theorem Xfq {w:World} {F:Gs} {s:List UInt8} (hF:Fits F w) (hl:s.length≤1000000000):Qc Tryz.prog 36 [tx s] w F (.bool (ahead XY s==s.length)):=by
 refine QT.intro (G:=fun _=>True) Tryz.func36 rfl (by rfl) rfl rfl hF (fun F' hF'=>trivial)<|J_sr<|JS_as rfl<|JS_nt<|J_sr<|JS_mv rfl<|QH rfl (fun w F hF _=>D0 hF (Nat.le_trans hl (by decide))) (fun _=>JS_mv rfl<|QA (XA rfl En)<|QA (QU rfl rfl rfl)<|JS_as rfl<|JS_nt<|QS ?_)
 exact QR () rfl (.tmp rfl .nil) (congrArg Value.bool (by rw [Bool.eq_iff_iff];simp;try omega)) (fun _ _=>trivial)
theorem x6 {w:World} {F:Gs} {s:List UInt8} (hF:Fits F w) (hl:s.length≤1000000000):Qc Tryz.prog 204 [tx s] w F (tx (numOf s)):=by
 refine QT.intro (G:=fun _=>True) Tryz.func204 rfl (by rfl) rfl rfl hF (fun F' hF'=>trivial)<|J_sr<|JS_as rfl<|JS_nt<|J_sr<|JS_mv rfl<|JS_mv rfl<|QH rfl (fun w F hF _=>D0 hF (Nat.le_trans hl (by decide))) (fun _=>QA (Ha (ahead XY s) rfl rfl En rfl (Bz _ _))<|JS_as rfl<|JS_nt<|QS ?_)
 exact QR () rfl (.tmp rfl .nil) (rfl) (fun _ _=>trivial)
theorem zA {w:World} {F:Gs} {s:List UInt8} (hF:Fits F w) (hl:s.length≤1000000000):Qc Tryz.prog 205 [tx s] w F (tx (UU s)):=by
 refine QT.intro (G:=fun _=>True) Tryz.func205 rfl (by rfl) rfl rfl hF (fun F' hF'=>trivial)<|J_sr<|JS_as rfl<|JS_nt<|J_sr<|JS_mv rfl<|QH rfl (fun w F hF _=>D0 hF (Nat.le_trans hl (by decide))) (fun _=>JS_as rfl<|JS_nt<|QG<|J_sr<|JS_mv rfl<|JS_mv rfl<|QA (XA rfl En)<|QA (QU rfl rfl rfl)<|QE<|QC ?_)
 refine QP rfl (fun hc=>?_) (fun hc=>?_)
 ·
  refine J_sr<|JS_as rfl<|JS_nt<|QS ?_
  exact QR () rfl (.tmp rfl .nil) (congrArg tx (by unfold UU;rw [if_pos (by simp at hc;omega)])) (fun _ _=>trivial)
 ·
  refine QO<|QC<|J_sr<|JS_mv rfl<|JS_mv rfl<|QA (Qp rfl rfl (by have:=Bz XY s;omega))<|QA (Kr (ahead XY s+1) rfl rfl En rfl (by have:=Bz XY s;simp at hc;omega))<|JS_as rfl<|JS_nt<|QS ?_
  exact QR () rfl (.tmp rfl .nil) (congrArg tx (by unfold UU;rw [if_neg (by simp at hc;omega)])) (fun _ _=>trivial)
theorem jx {w:World} {F:Gs} {s:List UInt8} (hF:Fits F w) (hl:s.length≤1000000000):Qc Tryz.prog 124 [tx s] w F (.int .i64 (Wi s)):=by
 refine QT.intro (G:=fun _=>True) Tryz.func124 rfl (by rfl) rfl rfl hF (fun F' hF'=>trivial)<|J_sr<|JS_as rfl<|JS_nt<|QG<|J_sr<|JS_mv rfl<|QH rfl (fun w F hF _=>x6 hF hl) (fun _=>QH rfl (fun w F hF h9=>zC hF ) (fun _=>QA (XA rfl En)<|QA (QU rfl rfl rfl)<|JS_mv rfl ?_))
 refine Qn (t:=8) rfl (fun hb8=>?_) (fun hb8=>?_)
 ·
  refine QN rfl rfl rfl<|QN rfl rfl rfl<|QN rfl rfl rfl<|QN rfl rfl rfl<|QA (Qj rfl rfl rfl)<|JS_nt<|Wu rfl<|J_sr<|JS_as rfl<|JS_nt<|QS ?_
  exact QR () rfl (.tmp rfl .nil) (congrArg (Value.int .i64) (by have h:=dec_t hb8;unfold Wi;rw [if_pos (by rw [decide_eq_true (by omega)];rfl)])) (fun _ _=>trivial)
 ·
  refine QJ rfl rfl<|JS_mv rfl<|QJ rfl rfl<|QH rfl (fun w F hF h9=>zA hF hl) (fun _=>QJ rfl rfl<|QA (XA rfl En)<|QJ rfl rfl<|QA (QU rfl rfl rfl)<|QA (Qh rfl rfl rfl)<|QE<|QC ?_)
  refine QP rfl (fun hc=>?_) (fun hc=>?_)
  ·
   refine J_sr<|JS_as rfl<|JS_nt<|QS ?_
   exact QR () rfl (.tmp rfl .nil) (congrArg (Value.int .i64) (by have h:=dec_t hc;unfold Wi;rw [if_pos (by rw [decide_eq_true (show 600<(UU s).length by omega),Bool.or_true])])) (fun _ _=>trivial)
  ·
   refine QO<|QC<|J_sr<|JS_as rfl<|JS_nt<|QS ?_
   exact QR () rfl (.tmp rfl .nil) (congrArg (Value.int .i64) (by have h:=dec_f hc;have h8:=dec_f hb8;unfold Wi;rw [if_neg (by rw [decide_eq_false (by omega),decide_eq_false (by omega)];decide)])) (fun _ _=>trivial)
end
section
open Go.RowKit Ig
theorem k7 {d:Nat} (h:d<10):(([48,49,50,51,52,53,54,55,56,57]:List UInt8).take (d+1)).drop d=[UInt8.ofNat (48+d)]:=by
 match d,h with
 |0,_=>rfl
 |1,_=>rfl
 |2,_=>rfl
 |3,_=>rfl
 |4,_=>rfl
 |5,_=>rfl
 |6,_=>rfl
 |7,_=>rfl
 |8,_=>rfl
 |9,_=>rfl
theorem zB {w:World} {F:Gs} {n least:Nat} (hF:Fits F w) (hn:n≤9223372036854775807) (hl:least≤1000):Qc Tryz.prog 182 [.int .i64 (n:Int),.int .i64 (least:Int)] w F (tx (Nt n least)):=by
 refine QT.intro (G:=fun _=>True) Tryz.func182 rfl (by rfl) rfl rfl hF (fun F' hF'=>trivial)<|J_sr<|JS_as rfl<|JS_nt<|J_sr<|JS_as rfl<|JS_nt<|QG<|QX<|Xa (ι:=CU n least) (fun i=>[(0,.int .i64 (i.m:Int)),(1,.int .i64 (least:Int)),(5,tx i.t)]) (fun _=>[]) (fun _ _=>True) (fun i=>i.m+(least - i.t.length)) ⟨n,[],Nat.le_refl _,by unfold Nt;simp,by have:=Oo hn;simp;omega⟩ ⟨rfl,rfl,rfl,trivial⟩ subl_r (fun _ h=>trivial) (fun i=>?_)
 have hle:=i.le
 have htl:=i.tl
 refine QG<|J_sr<|JS_mv rfl<|QA (QU rfl rfl rfl)<|JS_mv rfl ?_
 refine Qn (t:=8) rfl (fun hb8=>?_) (fun hb8=>?_)
 ·
  refine QN rfl rfl rfl<|QN rfl rfl rfl<|QN rfl rfl rfl<|QN rfl rfl rfl<|QA (Qj rfl rfl rfl)<|JS_nt<|Wu rfl<|QO<|QC<|QX<|J_sr<|JS_mv rfl<|QA (VH rfl rfl (by omega) (by omega))<|JS_mv rfl<|QA (VH rfl rfl (by omega) (by omega))<|QA (Qp rfl rfl (by omega))<|QA (Mx (i.m%10) (i.m%10+1) rfl rfl rfl Xn (.inr rfl) (.inr rfl) (by omega) (by show i.m%10+1≤10;omega)) ?_
  rw [k7 (Nat.mod_lt _ (by decide))]
  refine JS_mv rfl<|QA (Zf rfl rfl (by simp;omega))<|JS_as rfl<|JS_nt<|QB<|JS_mv rfl<|QA (Wh rfl rfl (by omega) (by omega) (by omega))<|JS_as rfl<|QE<|Qk ?_
  exact Ql (CU.next i (Or.inl (by have:=dec_t hb8;omega):0<i.m∨i.t.length<least)) (by show i.m / 10+(least - (i.t.length+1))<i.m+(least - i.t.length);rcases (Or.inl (by have:=dec_t hb8;omega):0<i.m∨i.t.length<least) with g | g<;>omega) ⟨rfl,rfl,rfl,trivial⟩ subl_r (fun _ h=>trivial)
 ·
  refine QJ rfl rfl<|JS_mv rfl<|QJ rfl rfl<|QA (XA rfl Xn)<|QJ rfl rfl<|JS_mv rfl<|QJ rfl rfl<|QA (QU rfl rfl rfl)<|QA (Qh rfl rfl rfl)<|QE<|QC ?_
  refine QP rfl (fun hc=>?_) (fun hc=>?_)
  ·
   refine QO<|QC<|QX<|J_sr<|JS_mv rfl<|QA (VH rfl rfl (by omega) (by omega))<|JS_mv rfl<|QA (VH rfl rfl (by omega) (by omega))<|QA (Qp rfl rfl (by omega))<|QA (Mx (i.m%10) (i.m%10+1) rfl rfl rfl Xn (.inr rfl) (.inr rfl) (by omega) (by show i.m%10+1≤10;omega)) ?_
   rw [k7 (Nat.mod_lt _ (by decide))]
   refine JS_mv rfl<|QA (Zf rfl rfl (by simp;omega))<|JS_as rfl<|JS_nt<|QB<|JS_mv rfl<|QA (Wh rfl rfl (by omega) (by omega) (by omega))<|JS_as rfl<|QE<|Qk ?_
   exact Ql (CU.next i (Or.inr (by have:=dec_t hc;omega):0<i.m∨i.t.length<least)) (by show i.m / 10+(least - (i.t.length+1))<i.m+(least - i.t.length);rcases (Or.inr (by have:=dec_t hc;omega):0<i.m∨i.t.length<least) with g | g<;>omega) ⟨rfl,rfl,rfl,trivial⟩ subl_r (fun _ h=>trivial)
  ·
   refine Qy ?_
   repeat (first | refine QZ ?_ | refine QV (by rfl) ?_)
   refine Qa<|QC<|J_sr<|JS_mv rfl<|JS_as rfl<|JS_nt<|QS ?_
   exact QR () rfl (.tmp rfl .nil) (congrArg tx (by have h1:=dec_f hb8;have h2:=dec_f hc;have h0:i.m=0:=(by omega);rw [← i.h,h0];simp [hd,VW,show least - i.t.length=0 by omega,Lib.repeatL])) (fun _ _=>trivial)
end
section
open Go.RowKit Ig
theorem dQ {a b out:List Int} {c:Int} (da:DG B9 out) (hl:out.length=a.length) (hb:b.length≤a.length) (h:dv B9 out+dv B9 (b.take a.length)=dv B9 (a.take a.length)+B9^a.length*c) (h0:0≤c) (h1:c≤1) (hle:dv B9 b≤dv B9 a):dv B9 out=dv B9 a - dv B9 b:=by
 rw [List.take_length,List.take_of_length_le hb] at h
 have hlt:=Z1 (b:=B9) (by decide) da
 rw [hl] at hlt
 have hc:c=0∨c=1:=by omega
 rcases hc with rfl | rfl
 ·rw [Int.mul_zero] at h;omega
 ·rw [Int.mul_one] at h;omega
theorem Au {w:World} {F:Gs} {ra rb:Sr} {a b:List Int} (hF:Fits F w) (hA:JL F ra a) (hB:JL F rb b) (da:DG B9 a) (db:DG B9 b) (la:a.length≤100000000) (lb:b.length≤a.length) (hle:dv B9 b≤dv B9 a) :
  Ma Tryz.prog 239 [ra.v,rb.v] w F (fun l=>dv B9 l=dv B9 a - dv B9 b∧NZ l∧l.length≤a.length):=by
 obtain ⟨q,n,c⟩:=ra
 have na:=hA.2.1
 have nb:=hB.2.1
 dsimp only at na
 have h9:B9=1000000000:=rfl
 refine QT.intro (G:=fun F=>JL F ⟨q,n,c⟩ a∧JL F rb b) Tryz.func239 rfl (by rfl) rfl rfl hF (fun F' hF'=>⟨hA.le hF',hB.le hF'⟩) ?_
 dsimp only [Sr.v]
 refine J_sr<|JS_as rfl<|JS_nt<|J_sr<|JS_as rfl<|JS_nt<|J_sr<|JS_as rfl<|JS_nt<|QG<|J_sr<|JS_as rfl<|JS_nt<|QX ?_
 refine Xa (ι:=pW a b) (fun i=>[(0,.slice q n c),(1,.slice rb.q rb.n rb.cap),(5,i.v),(6,.int .i64 i.borrow),(7,.int .i64 (i.i:Int))]) (fun i=>i.ob) (fun _ F=>JL F ⟨q,n,c⟩ a∧JL F rb b) (fun i=>a.length - i.i)
  ⟨0,[],0,.slice none 0 0,[],Nat.zero_le _,rfl,DG.nil _,by decide,by decide,by simp,.nil⟩ ⟨rfl,rfl,rfl,rfl,rfl,trivial⟩ (List.nil_sublist _) (fun _ h=>h) (fun i=>?_)
 have hile:=i.le
 have hlen:=i.len
 have hc0:=i.c0
 have hc1:=i.c1
 refine QG<|J_sr<|JS_mv rfl<|JS_mv rfl<|QA (Qi rfl Qd)<|QA (QU rfl rfl rfl)<|QE<|QC ?_
 refine QP rfl (fun hc=>?_) (fun hc=>?_)
 ·
  have hi:i.i<n:=by have:=dec_t hc;omega
  have hia:i.i<a.length:=by omega
  have b1:=R6 da i.i
  have b2:=R6 db i.i
  have e1:a[i.i]=a.getD i.i 0:=by simp [hia]
  refine X3 _ (fun w F hF h=>h.1.1.ptr (by dsimp only;omega)) (fun hq=>?_)
  obtain ⟨qb,qo,hq⟩:=hq
  dsimp only at hq
  subst hq
  refine QO<|QC<|QG<|QX<|QG<|JR subl_r mixed (by kernel_rfl)<|QM (QD rfl)<|QM (QD rfl)<|QM (Qw (i:=i.i) rfl rfl Qd Qs (by omega))<|QM (XX (n:=n) (sz:=1) (cs:=a.map Qx) (u:=.int .i64 (a.getD i.i 0)) rfl Qs (fun F h=>h.1.1) (by omega) (by simp [hia,Qx]))<|QM (QD rfl)<|QM (QD rfl)<|Qg rfl (fun w F hF h9=>Pa (r:=rb) (l:=b) hF h9.2 (by omega)) (fun _=>QM (J7 rfl rfl (by omega))<|QM (QD rfl)<|QM (J7 rfl rfl (by omega))<|QM (QF rfl)<|Q9<|QC<|J_sr<|JS_as rfl<|JS_nt<|QG ?_)
  refine J_sr<|JS_mv rfl<|QA (QU rfl rfl rfl)<|QE<|QC ?_
  refine QP rfl (fun hs=>?_) (fun hs=>?_)
  ·
   refine J_sr<|JS_mv rfl<|QA (Qp rfl rfl (by omega))<|JS_as rfl<|JS_nt<|QB<|JS_as rfl<|JS_nt<|QB<|JS_mv rfl<|JS_mv rfl<|QW rfl (Q7 Qd) Qs Vj rfl rfl (fun b31=>?_)
   refine VT (bs1:=[]) (ob:=i.ob) (k:=1) (sz:=1) (news:=[.int .i64 ((a.getD i.i 0 - b.getD i.i 0 - i.borrow)+1000000000)]) rfl rfl Qd Qs Vj rfl Db i.hr (Src.row (off:=0) (fun F h=>h.2) (fun j v hv=>by rw [Nat.zero_add];show([Value.int .i64 ((a.getD i.i 0 - b.getD i.i 0 - i.borrow)+1000000000)].toArray)[j]?=some v;rw [List.getElem?_toArray];exact hv) rfl) (by omega) (by omega) (fun u hu=>by rw [List.mem_singleton.1 hu];rfl) (fun v' ob' hr'=>?_)
   refine JS_as rfl<|QE<|Qk<|QC<|QB<|JS_mv rfl<|QA (Qp rfl rfl (by omega))<|JS_as rfl<|QE ?_
   exact Ql (⟨i.i+1,i.out++[((a.getD i.i 0 - b.getD i.i 0 - i.borrow)+1000000000)],1,v',ob',by omega,by simp [hlen],i.dg.append (DG.cons (by have:=dec_t hs;omega) (by have:=dec_t hs;rw [h9];omega) (DG.nil _)),by decide,by decide,vB hlen i.h (by rw [h9];omega),by simpa [Qx] using hr'⟩:pW a b) (by show a.length - (i.i+1)<a.length - i.i;omega) ⟨rfl,rfl,rfl,rfl,rfl,trivial⟩ subl_r (fun F h=>h.1.1)
  ·
   refine QO<|QC<|QB<|JS_mv rfl<|JS_mv rfl<|QW rfl (Q7 Qd) Qs Vj rfl rfl (fun b31=>?_)
   refine VT (bs1:=[]) (ob:=i.ob) (k:=1) (sz:=1) (news:=[.int .i64 (a.getD i.i 0 - b.getD i.i 0 - i.borrow)]) rfl rfl Qd Qs Vj rfl Db i.hr (Src.row (off:=0) (fun F h=>h.2) (fun j v hv=>by rw [Nat.zero_add];show([Value.int .i64 (a.getD i.i 0 - b.getD i.i 0 - i.borrow)].toArray)[j]?=some v;rw [List.getElem?_toArray];exact hv) rfl) (by omega) (by omega) (fun u hu=>by rw [List.mem_singleton.1 hu];rfl) (fun v' ob' hr'=>?_)
   refine JS_as rfl<|QE<|Qk<|QC<|QB<|JS_mv rfl<|QA (Qp rfl rfl (by omega))<|JS_as rfl<|QE ?_
   exact Ql (⟨i.i+1,i.out++[(a.getD i.i 0 - b.getD i.i 0 - i.borrow)],0,v',ob',by omega,by simp [hlen],i.dg.append (DG.cons (by have:=dec_f hs;omega) (by have:=dec_f hs;rw [h9];omega) (DG.nil _)),by decide,by decide,vB hlen i.h (by rw [h9];omega),by simpa [Qx] using hr'⟩:pW a b) (by show a.length - (i.i+1)<a.length - i.i;omega) ⟨rfl,rfl,rfl,rfl,rfl,trivial⟩ subl_r (fun F h=>h.1.1)
 ·
  refine Qy ?_
  repeat (first | refine QZ ?_ | refine QV (by rfl) ?_)
  refine Qa<|QC<|QG ?_
  obtain ⟨r,hv,hrn,hrc,hfix⟩:=Qz.fix (w0:=w) (F0:=F) (bs1:=[]) (G:=fun F=>JL F ⟨q,n,c⟩ a∧JL F rb b) i.hr
  have hex:i.i=a.length:=by have:=dec_f hc;omega
  have hlz:=Xy i.out
  refine UY hfix ?_
  rw [hv]
  refine QB<|JS_mv rfl<|QH rfl (fun w F hF h9=>Wn (r:=r) (l:=i.out) hF ⟨by rw [hrn];exact h9.2,hrn.symm,by omega⟩ (by omega)) (fun c34=>JS_as rfl<|JS_nt<|QS ?_)
  exact QR ((⟨r.q,(Q2 i.out).length,r.cap⟩,Q2 i.out):Sr×List Int) rfl (.tmp rfl .nil) rfl (fun F h=>⟨h.2,i.dg.Q2,by show dv B9 (Q2 i.out)=_;rw [XB];exact dQ i.dg (by omega) lb (by have e:=i.h;rw [hex] at e;exact e) hc0 hc1 hle,Xh _,by show(Q2 i.out).length≤_;omega⟩)
end
section
open Go.RowKit Ig
section
variable {P:Program} {N:Nat} {m:Sl} {S:World→Prop} {ty:TypeId}
def Cl (P:Program) (T:TypeId):Bool:=match P.underlying T with
 |some .bool=>true
 |_=>false
theorem pU {T:TypeId} (h:Cl P T=true):P.underlying T=some .bool:=by
 unfold Cl at h;split at h
 ·assumption
 ·cases h
theorem Lr {T:TypeId} (hT:Cl P T=true) (a b:Bool) (w:World):(Op.equal T (.bool a) (.bool b)).run P w = .ok (a==b) w:=by
 have e:∃ n,Op.maxDepth=n+1:=⟨Op.maxDepth - 1,by decide⟩
 obtain ⟨n,e⟩:=e
 unfold Op.equal
 rw [e]
 unfold Op.equalIn
 simp [run_underlying (pU hT)]
theorem uP {T yT:TypeId} {x y:Operand} {a b:Bool} (hT:Cl P T=true) (hx:ev m x=some (.bool a)) (hy:ev m y=some (.bool b)):Qt P N m S (.binOp .eql T x y yT) ty (.bool (a==b)):=fun s w _ _ _ _ ha _=>by
 simp only [execOp,ha.ev hx,ha.ev hy,eqGuard,binOp,Sem.run_bind,Sem.run_pure,Result.andThen_ok,Lr hT]
 rfl
theorem uO {T yT:TypeId} {x y:Operand} {a b:Bool} (hT:Cl P T=true) (hx:ev m x=some (.bool a)) (hy:ev m y=some (.bool b)):Qt P N m S (.binOp .neq T x y yT) ty (.bool (!(a==b))):=fun s w _ _ _ _ ha _=>by
 simp only [execOp,ha.ev hx,ha.ev hy,eqGuard,binOp,Sem.run_bind,Sem.run_pure,Result.andThen_ok,Lr hT]
 rfl
end
theorem y7:Cl Tryz.prog 4=true:=by kernel_rfl
theorem pQ {x y:Int} (h:ZU x y≥0):y≤x:=by
 unfold ZU at h;split at h
 ·omega
 ·split at h<;>omega
theorem jw {w:World} {F:Gs} {x:Ri} {zx:Int} (hF:Fits F w) (hx:VZ F x zx) (hz:sz zx≤1000000):Hc Tryz.prog 179 [x.v] w F (-zx):=by
 obtain ⟨xn,⟨xq,xm,xc⟩,xl⟩:=x
 have px:=hx.p
 have lx:=px.len
 have kx:=hx.1.2.1
 have vx:=px.v0
 dsimp only at px lx kx vx
 dsimp only [Ri.v]
 have eqn : -zx=We (!xn) xl:=by rw [px.e];cases xn<;>simp [We]
 refine QT.intro (G:=fun F=>VZ F ⟨xn,⟨xq,xm,xc⟩,xl⟩ zx) Tryz.func179 rfl (by rfl) rfl rfl hF (fun F' hF'=>hx.le hF')<|J_sr<|Q5 rfl (vs:=[_,_]) rfl (fun b1=>Qf Yj (fun b2=>JS_nt<|J_sr<|QA (QI rfl KW V7)<|QA (Qo rfl V7 (.there .here) (.here .nil))<|QA (Z0 rfl)<|QA (QI rfl Z6 Qv)<|QA (Qo rfl Qv (.there .here) (.skip (.here .nil)))<|QH rfl (fun w F hF hx=>Z3 hF (r:=⟨xq,xm,xc⟩) (l:=xl) (neg:=!xn) hx.1 (px.dg) (by omega)) (fun c8=>QQ (vs:=[_,_]) rfl rfl rfl JP rfl .here (.here (.here .nil)) ⟨rfl,rfl,trivial⟩<|JS_nt<|QS ?_)))
 exact QR (c8) rfl (.Jc (c:=[_,_]) rfl JP .here .nil) (rfl) (fun F h9=>(by rw [eqn];exact h9.2))
theorem G6 {w:World} {F:Gs} {x y:Ri} {zx zy:Int} (hF:Fits F w) (hx:VZ F x zx) (hy:VZ F y zy) (hzx:sz zx≤1000000) (hzy:sz zy≤1000000):Hc Tryz.prog 178 [x.v,y.v] w F (zx*zy):=by
 obtain ⟨xn,⟨xq,xm,xc⟩,xl⟩:=x
 have px:=hx.p
 have lx:=px.len
 have kx:=hx.1.2.1
 have vx:=px.v0
 dsimp only at px lx kx vx
 obtain ⟨yn,⟨yq,ym,yc⟩,yl⟩:=y
 have py:=hy.p
 have ly:=py.len
 have ky:=hy.1.2.1
 have vy:=py.v0
 dsimp only at py ly ky vy
 dsimp only [Ri.v]
 refine QT.intro (G:=fun F=>VZ F ⟨xn,⟨xq,xm,xc⟩,xl⟩ zx∧VZ F ⟨yn,⟨yq,ym,yc⟩,yl⟩ zy) Tryz.func178 rfl (by rfl) rfl rfl hF (fun F' hF'=>⟨hx.le hF',hy.le hF'⟩)<|J_sr<|Q5 rfl (vs:=[_,_]) rfl (fun b2=>Q5 rfl (vs:=[_,_]) rfl (fun b3=>Qf Yj (fun b4=>JS_nt<|QG<|JR (.cons _ (.cons_cons _ (.cons_cons _ .slnil))) mixed (by kernel_rfl)<|QM (QI rfl KW V7)<|QM (Qo rfl V7 (.there .here) (.here .nil))<|QM (QI rfl KW V7)<|QM (Qo rfl V7 .here (.here .nil))<|QM (uO y7 rfl rfl)<|QM (QI rfl Z6 Qv)<|QM (Qo rfl Qv (.there .here) (.skip (.here .nil)))<|QM (QI rfl Z6 Qv)<|QM (Qo rfl Qv .here (.skip (.here .nil))) ?_)))
 refine Qg rfl (fun w F hF h9=>GW hF (a:=xl) (b:=yl) (ra:=⟨xq,xm,xc⟩) (rb:=⟨yq,ym,yc⟩) h9.1.1 (h9.2.1) (px.dg) (py.dg) (by omega) (by first | omega | (simp;done) | (simp;omega))) (fun c14=>?_);rcases c14 with ⟨v14,l14⟩;dsimp only
 refine MS _ (fun w F hF ⟨⟨hx,hy⟩,⟨h14,h14p⟩⟩=>And.intro h14.2 h14p) (fun p14=>?_)
 have eqn:zx*zy=We (!(xn==yn)) l14:=by
  have e14:=p14.2.2.1
  rw [px.e,py.e];unfold We;rw [e14];cases xn<;>cases yn<;>simp [Int.mul_neg,Int.neg_mul]
 have m14:=p14.2.2.2.2
 refine Qg rfl (fun w F hF h9=>Z3 hF (r:=v14) (l:=l14) (neg:=!(xn==yn)) h9.2.1 (p14.2.1) (by omega)) (fun c15=>Jh (vs:=[_,_]) rfl rfl rfl JP rfl .here (.cons_cons _ (.cons_cons _ .slnil)) (fun _ h=>h.1.1) (.here (.here .nil)) ⟨rfl,rfl,trivial⟩<|Q9<|QC<|QS ?_)
 exact QR (c15) rfl (.Jc (c:=[_,_]) rfl JP .here .nil) (rfl) (fun F h9=>(by rw [eqn];exact h9.2))
theorem yh {w:World} {F:Gs} {x y:Ri} {zx zy:Int} (hF:Fits F w) (hx:VZ F x zx) (hy:VZ F y zy) (hzx:sz zx≤1000000) (hzy:sz zy≤1000000):Hc Tryz.prog 177 [x.v,y.v] w F (zx+zy):=by
 obtain ⟨xn,⟨xq,xm,xc⟩,xl⟩:=x
 have px:=hx.p
 have lx:=px.len
 have kx:=hx.1.2.1
 have vx:=px.v0
 dsimp only at px lx kx vx
 obtain ⟨yn,⟨yq,ym,yc⟩,yl⟩:=y
 have py:=hy.p
 have ly:=py.len
 have ky:=hy.1.2.1
 have vy:=py.v0
 dsimp only at py ly ky vy
 dsimp only [Ri.v]
 refine QT.intro (G:=fun F=>VZ F ⟨xn,⟨xq,xm,xc⟩,xl⟩ zx∧VZ F ⟨yn,⟨yq,ym,yc⟩,yl⟩ zy) Tryz.func177 rfl (by rfl) rfl rfl hF (fun F' hF'=>⟨hx.le hF',hy.le hF'⟩)<|J_sr<|Q5 rfl (vs:=[_,_]) rfl (fun b2=>Q5 rfl (vs:=[_,_]) rfl (fun b3=>Qf Yj (fun b4=>JS_nt<|QG<|J_sr<|QA (QI rfl KW V7)<|QA (Qo rfl V7 (.there (.there .here)) (.here .nil))<|QA (QI rfl KW V7)<|QA (Qo rfl V7 (.there .here) (.here .nil))<|QA (uP y7 rfl rfl)<|QE<|QC ?_)))
 refine QP rfl (fun hc=>?_) (fun hc=>?_)
 ·
  have hne:xn=yn:=by simpa using hc
  refine QG<|JR (.cons _ (.cons_cons _ (.cons_cons _ .slnil))) mixed (by kernel_rfl)<|QM (QI rfl KW V7)<|QM (Qo rfl V7 (.there .here) (.here .nil))<|QM (QI rfl Z6 Qv)<|QM (Qo rfl Qv (.there .here) (.skip (.here .nil)))<|QM (QI rfl Z6 Qv)<|QM (Qo rfl Qv .here (.skip (.here .nil))) ?_
  refine Qg rfl (fun w F hF h9=>Ev hF (a:=xl) (b:=yl) (ra:=⟨xq,xm,xc⟩) (rb:=⟨yq,ym,yc⟩) h9.1.1 (h9.2.1) (px.dg) (py.dg) (by omega) (by first | omega | (simp;done) | (simp;omega))) (fun c16=>?_);rcases c16 with ⟨v16,l16⟩;dsimp only
  refine MS _ (fun w F hF ⟨⟨hx,hy⟩,⟨h16,h16p⟩⟩=>And.intro h16.2 h16p) (fun p16=>?_)
  have eqn:zx+zy=We xn l16:=by
   have e16:=p16.2.2.1
   rw [px.e,py.e,hne];unfold We;rw [e16];cases yn<;>simp<;>omega
  have m16:=p16.2.2.2
  refine Qg rfl (fun w F hF h9=>Z3 hF (r:=v16) (l:=l16) (neg:=xn) h9.2.1 (p16.2.1) (by omega)) (fun c17=>Jh (vs:=[_,_]) rfl rfl rfl JP rfl .here (.cons_cons _ (.cons_cons _ .slnil)) (fun _ h=>h.1.1) (.here (.here .nil)) ⟨rfl,rfl,trivial⟩<|Q9<|QC<|QS ?_)
  exact QR (c17) rfl (.Jc (c:=[_,_]) rfl JP .here .nil) (rfl) (fun F h9=>(by rw [eqn];exact h9.2))
 ·
  have hne:xn=!yn:=by cases xn<;>cases yn<;>simp_all
  refine QO<|QC<|QG<|J_sr<|QA (QI rfl Z6 Qv)<|QA (Qo rfl Qv (.there (.there .here)) (.skip (.here .nil)))<|QA (QI rfl Z6 Qv)<|QA (Qo rfl Qv (.there .here) (.skip (.here .nil)))<|QH rfl (fun w F hF h9=>GY hF (a:=xl) (b:=yl) (ra:=⟨xq,xm,xc⟩) (rb:=⟨yq,ym,yc⟩) h9.1.1 (h9.2.1) (px.dg) (py.dg) (px.nz) (py.nz) (by omega) (by omega)) (fun _=>QA (QU rfl rfl rfl)<|QE<|QC ?_)
  refine QP rfl (fun hc=>?_) (fun hc=>?_)
  ·
   have hle:dv B9 yl≤dv B9 xl:=pQ (dec_t hc)
   have hll:=GB py.dg px.dg py.nz hle
   refine QG<|JR (.cons _ (.cons_cons _ (.cons_cons _ .slnil))) mixed (by kernel_rfl)<|QM (QI rfl KW V7)<|QM (Qo rfl V7 (.there .here) (.here .nil))<|QM (QI rfl Z6 Qv)<|QM (Qo rfl Qv (.there .here) (.skip (.here .nil)))<|QM (QI rfl Z6 Qv)<|QM (Qo rfl Qv .here (.skip (.here .nil))) ?_
   refine Qg rfl (fun w F hF h9=>Au hF (a:=xl) (b:=yl) (ra:=⟨xq,xm,xc⟩) (rb:=⟨yq,ym,yc⟩) h9.1.1.1 (h9.1.2.1) (px.dg) (py.dg) (by omega) (by omega) (hle)) (fun c30=>?_);rcases c30 with ⟨v30,l30⟩;dsimp only
   refine MS _ (fun w F hF ⟨⟨⟨hx,hy⟩,_⟩,⟨h30,h30p⟩⟩=>And.intro h30.2 h30p) (fun p30=>?_)
   have eqn:zx+zy=We xn l30:=by
    have e30:=p30.2.2.1
    rw [px.e,py.e,hne];unfold We;rw [e30];cases yn<;>simp<;>omega
   have m30:=p30.2.2.2
   refine Qg rfl (fun w F hF h9=>Z3 hF (r:=v30) (l:=l30) (neg:=xn) h9.2.1 (p30.2.1) (by omega)) (fun c31=>Jh (vs:=[_,_]) rfl rfl rfl JP rfl .here (.cons_cons _ (.cons_cons _ .slnil)) (fun _ h=>h.1.1) (.here (.here .nil)) ⟨rfl,rfl,trivial⟩<|Q9<|QC<|QS ?_)
   exact QR (c31) rfl (.Jc (c:=[_,_]) rfl JP .here .nil) (rfl) (fun F h9=>(by rw [eqn];exact h9.2))
  ·
   have hle:dv B9 xl≤dv B9 yl:=xa (dec_f hc)
   have hll:=GB px.dg py.dg px.nz hle
   refine QO<|QC<|QG<|JR (.cons _ (.cons_cons _ (.cons_cons _ .slnil))) mixed (by kernel_rfl)<|QM (QI rfl KW V7)<|QM (Qo rfl V7 .here (.here .nil))<|QM (QI rfl Z6 Qv)<|QM (Qo rfl Qv .here (.skip (.here .nil)))<|QM (QI rfl Z6 Qv)<|QM (Qo rfl Qv (.there .here) (.skip (.here .nil))) ?_
   refine Qg rfl (fun w F hF h9=>Au hF (a:=yl) (b:=xl) (ra:=⟨yq,ym,yc⟩) (rb:=⟨xq,xm,xc⟩) h9.1.2.1 (h9.1.1.1) (py.dg) (px.dg) (by omega) (by omega) (hle)) (fun c38=>?_);rcases c38 with ⟨v38,l38⟩;dsimp only
   refine MS _ (fun w F hF ⟨⟨⟨hx,hy⟩,_⟩,⟨h38,h38p⟩⟩=>And.intro h38.2 h38p) (fun p38=>?_)
   have eqn:zx+zy=We yn l38:=by
    have e38:=p38.2.2.1
    rw [px.e,py.e,hne];unfold We;rw [e38];cases yn<;>simp<;>omega
   have m38:=p38.2.2.2
   refine Qg rfl (fun w F hF h9=>Z3 hF (r:=v38) (l:=l38) (neg:=yn) h9.2.1 (p38.2.1) (by omega)) (fun c39=>Jh (vs:=[_,_]) rfl rfl rfl JP rfl .here (.cons_cons _ (.cons_cons _ .slnil)) (fun _ h=>h.1.1) (.here (.here .nil)) ⟨rfl,rfl,trivial⟩<|Q9<|QC<|QS ?_)
   exact QR (c39) rfl (.Jc (c:=[_,_]) rfl JP .here .nil) (rfl) (fun F h9=>(by rw [eqn];exact h9.2))
end
section
open Go.RowKit Ig
theorem kL (x y:Int):Int.gcd y (x%y)=Int.gcd x y:=by
 rw [Int.gcd_comm y,Int.emod_def]
 first | rw [Int.gcd_sub_mul_left_left] | rw [Int.gcd_sub_mul_right_left] | rw [Int.gcd_sub_mul_left] | simp
theorem Cb {w:World} {F:Gs} {ra rb:Sr} {a b:List Int} (hF:Fits F w) (hA:JL F ra a) (hB:JL F rb b) (da:DG B9 a) (db:DG B9 b) (za:NZ a) (zb:NZ b) (la:a.length≤10000000) (lb:b.length≤10000000) :
  QT Tryz.prog 120 [ra.v,rb.v] w F (fun(c:Sr×List Int)=>.slice c.1.q c.1.n c.1.cap) (fun c F=>JL F c.1 c.2∧DG B9 c.2∧NZ c.2∧dv B9 c.2=(Int.gcd (dv B9 a) (dv B9 b):Int)):=by
 refine QT.intro (G:=fun F=>JL F ra a∧JL F rb b) Tryz.func120 rfl (by rfl) rfl rfl hF (fun F' hF'=>⟨hA.le hF',hB.le hF'⟩)<|J_sr<|JS_as rfl<|JS_nt<|QG<|QX<|Jw (ι:=cf (dv B9 a) (dv B9 b)) [] (fun i=>[(0,.slice i.ra.q i.ra.n i.ra.cap),(1,.slice i.rb.q i.rb.n i.rb.cap)]) (fun i=>[]) (fun i F=>JL F i.ra i.a∧JL F i.rb i.b) (fun i=>(dv B9 i.b).toNat) (⟨ra,rb,a,b,da,db,za,zb,la,lb,hB.2.1,rfl⟩) trivial ⟨rfl,rfl,trivial⟩ subl_r (fun F h=>h) (fun i=>?_)
 simp only [List.cons_append,List.nil_append]
 have hla:=i.la
 have hlb:=i.lb
 have hnb:=i.nb
 refine QG<|J_sr<|JS_mv rfl<|QA (Qi rfl Qd)<|QA (QU rfl rfl rfl)<|QE<|QC ?_
 refine QP rfl (fun hc=>?_) (fun hc=>?_)
 ·
  have hpos:0<dv B9 i.b:=by
   have h1:=Yq SV i.db i.zb
   have h2:=Qu JF i.db
   rw [← List.length_eq_zero_iff] at h1
   have:=dec_t hc
   omega
  have hm0:=Int.emod_nonneg (dv B9 i.a) (Int.ne_of_gt hpos)
  have hm1:=Int.emod_lt_of_pos (dv B9 i.a) hpos
  refine QO<|QC<|QX<|J_sr<|JS_mv rfl<|JS_mv rfl<|QH rfl (fun w F hF h9=>GX hF (a:=i.a) (b:=i.b) (ra:=i.ra) (rb:=i.rb) h9.2.1 (h9.2.2) (i.da) (i.db) (i.za) (i.zb) (hpos) (by omega) (by omega)) (fun c13=>JS_mv rfl<|QA (QK rfl rfl)<|QA (QK rfl rfl)<|JS_as rfl<|JS_as rfl<|JS_nt<|X3 _ (fun w F hF h=>And.intro h.2.2.2 h.2.2.1.2.1) (fun q13=>?_))
  obtain ⟨q13,n13⟩:=q13
  refine QB<|JS_mv rfl<|JS_mv rfl<|JS_as rfl<|JS_as rfl<|QE<|Qk ?_
  exact Ql (⟨i.rb,c13.2.1,i.b,c13.2.2,i.db,q13.1,i.zb,q13.2.1,i.lb,by have:=GB q13.1 i.db q13.2.1 (by rw [q13.2.2];omega);omega,n13,by rw [q13.2.2,kL];exact i.h⟩) (by show(dv B9 c13.2.2).toNat<(dv B9 i.b).toNat;rw [q13.2.2];omega) ⟨rfl,rfl,trivial⟩ subl_r (fun F h9=>⟨⟨h9.1.1.1,h9.1.1.2⟩,⟨h9.1.2.2,h9.2.2.1⟩⟩)
 ·
  have hz:i.b=[]:=by
   have:=dec_f hc
   exact List.eq_nil_of_length_eq_zero (by omega)
  refine Qy ?_
  repeat (first | refine QZ ?_ | refine QV (by rfl) ?_)
  refine Qa<|QC<|J_sr<|JS_mv rfl<|JS_as rfl<|JS_nt<|QS ?_
  exact QR ((i.ra,i.a):Sr×List Int) rfl (.tmp rfl .nil) (rfl) (fun F h9=>⟨h9.2.1,i.da,i.za,by have e:=i.h;rw [hz,T0,Int.gcd_zero_right] at e;have:=Qu JF i.da;show dv B9 i.a=_;omega⟩)
end
section
open Go.RowKit Ig
theorem Nw {w:World} {F:Gs} {x:Int} {least:Nat} (hF:Fits F w) (h0:0≤x) (hn:x≤9223372036854775807) (hl:least≤1000):Qc Tryz.prog 182 [.int .i64 x,.int .i64 (least:Int)] w F (tx (Nt x.toNat least)):=by
 have:=zB (n:=x.toNat) (least:=least) hF (by omega) hl
 rw [Int.toNat_of_nonneg h0] at this;exact this
theorem C3 {w:World} {F:Gs} {x:Ri} {zx:Int} (hF:Fits F w) (hx:VZ F x zx) (hz:sz zx≤1000000):Qc Tryz.prog 192 [x.v] w F (tx (X0 zx)):=by
 obtain ⟨xn,⟨xq,xm,xc⟩,xl⟩:=x
 have px:=hx.p
 have lx:=px.len
 have kx:=hx.1.2.1
 have vx:=px.v0
 dsimp only at px lx kx vx
 dsimp only [Ri.v]
 have h9:B9=1000000000:=rfl
 refine QT.intro (G:=fun F=>VZ F ⟨xn,⟨xq,xm,xc⟩,xl⟩ zx) Tryz.func192 rfl (by rfl) rfl rfl hF (fun F' hF'=>hx.le hF')<|J_sr<|Q5 rfl (vs:=[_,_]) rfl (fun b1=>JS_as rfl<|JS_nt<|QG<|J_sr<|QA (QI rfl Z6 Qv)<|QA (Qo rfl Qv .here (.skip (.here .nil)))<|QA (Qi rfl Qd)<|QA (QU rfl rfl rfl)<|QE<|QC ?_)
 refine QP rfl (fun hc=>?_) (fun hc=>?_)
 ·
  have hx0:zx=0:=(px.zero).1 (List.eq_nil_of_length_eq_zero (by have:=hc;simp at this;omega))
  refine J_sr<|JS_as rfl<|JS_nt<|QS ?_
  exact F_r1 rfl rfl (by rw [hx0,J3 (by decide)];exact congrArg (fun l=>tx l) Ze) (fun F hx=>trivial)
 ·
  have hl0:0<xl.length:=by
   rcases Nat.eq_zero_or_pos xm with g | g
   ·rw [g] at hc;simp at hc
   ·omega
  obtain ⟨d1,d2⟩:=Hb px.dg px.nz hl0
  have b0:=px.dg.Qb JF (xl.length - 1)
  rw [h9] at b0
  refine QO<|QC<|J_sr<|QA (QI rfl Z6 Qv)<|QA (Qo rfl Qv .here (.skip (.here .nil)))<|QA (QI rfl Z6 Qv)<|QA (Qo rfl Qv .here (.skip (.here .nil)))<|QA (Qi rfl Qd)<|QA (J7 rfl rfl (by omega))<|QA (JK (n:=xm) (xl.length - 1) (fun F hx=>(hx.1).1) rfl (congrArg (fun z:Int=>some (Value.int .i64 z)) (by omega)) Qd Qs (by omega))<|QA (JM (n:=xm) ((xl.length - 1)*1) (fun F hx=>(hx.1).1) (by omega) rfl Qs (JJ (o:=xl) (by omega)))<|QH rfl (fun w F hF hx=>Nw hF (least:=1) (by omega) (by omega) (by omega)) (fun _=>JS_as rfl<|JS_nt<|QG<|J_sr<|QA (QI rfl Z6 Qv)<|QA (Qo rfl Qv .here (.skip (.here .nil)))<|QA (Qi rfl Qd)<|QA (J7 rfl rfl (by omega))<|JS_as rfl<|QE ?_)
  refine QC<|QX<|ZT (ι:=jZ xl) [(1,_)] (fun i=>[(3,tx i.s),(4,.int .i64 ((i.k:Int) - 1))]) (fun i=>i.k) (jZ.start px.dg px.nz hl0) ⟨rfl,trivial⟩ ⟨rfl,(congrArg (fun z:Int=>some (Value.int .i64 z)) (by simp only [jZ.start];omega)),trivial⟩ (fun i=>?_)
  simp only [List.cons_append,List.nil_append]
  have hle:=i.le
  have hsl:=i.sl
  refine QG<|J_sr<|JS_mv rfl<|QA (QU rfl rfl rfl)<|QE<|QC ?_
  refine QP rfl (fun hc=>?_) (fun hc=>?_)
  ·
   have hk0:0<i.k:=by have:=dec_t hc;omega
   have b1:=px.dg.Qb JF (i.k - 1)
   rw [h9] at b1
   have ln:=Ds (n:=(Qb xl (i.k - 1)).toNat) (by omega)
   refine QO<|QC<|QG<|QX<|QB<|JS_mv rfl<|QA (QI rfl Z6 Qv)<|QA (Qo rfl Qv .here (.skip (.here .nil)))<|JS_mv rfl<|QA (JK (n:=xm) (i.k - 1) (fun F h9=>(h9.1.1).1) rfl (congrArg (fun z:Int=>some (Value.int .i64 z)) (by omega)) Qd Qs (by omega))<|QA (JM (n:=xm) ((i.k - 1)*1) (fun F h9=>(h9.1.1).1) (by omega) rfl Qs (JJ (o:=xl) (by omega)))<|QH rfl (fun w F hF h9=>Nw hF (least:=9) (by omega) (by omega) (by omega)) (fun _=>QA (Zf rfl rfl (by omega))<|JS_as rfl<|QE<|Qk<|QC<|QB<|JS_mv rfl<|QA (J7 rfl rfl (by omega))<|JS_as rfl<|QE ?_)
   exact Ql (i.next px.dg hk0) (by show i.k - 1<i.k;omega) ⟨rfl,rfl,(congrArg (fun z:Int=>some (Value.int .i64 z)) (by simp only [jZ.next];omega)),trivial⟩ subl_r (fun F h=>h.1)
  ·
   have hk0:i.k=0:=by have:=dec_f hc;omega
   have hi:=i.h
   rw [hk0,List.drop_zero] at hi
   have ha:=px.abs
   refine Qy ?_
   repeat (first | refine QZ ?_ | refine QV (by rfl) ?_)
   refine Qa<|QC<|QG<|J_sr<|QA (QI rfl KW V7)<|QA (Qo rfl V7 .here (.here .nil))<|QE<|QC ?_
   refine QP rfl (fun hc=>?_) (fun hc=>?_)
   ·
    have hneg:zx<0:=by have:=px.neg;rw [hc] at this;exact dec_t this.symm
    refine J_sr<|JS_mv rfl<|QA (Zf rfl rfl (by simp;omega))<|JS_as rfl<|JS_nt<|QS ?_
    exact F_r1 rfl rfl (by rw [YI hneg,hi];exact congrArg (fun n=>tx (45::Lib.decDigits n)) (by omega)) (fun F h9=>trivial)
   ·
    have hneg:¬ zx<0:=by have:=px.neg;rw [hc] at this;exact dec_f this.symm
    refine QO<|QC<|J_sr<|JS_mv rfl<|JS_as rfl<|JS_nt<|QS ?_
    exact F_r1 rfl rfl (by rw [J3 (by omega),hi];exact congrArg (fun n=>tx (Lib.decDigits n)) (by omega)) (fun F h9=>trivial)
end
section
open Go.RowKit Ig
theorem pI {n d:Int} (h:0<d) {neg:Bool} {l p:List Int} (hn:V5 neg l n) (hp:dv B9 p=dv B9 l / (Int.gcd n d:Int)):We neg p=(Rat.divInt n d).num:=by
 rw [(Kv h).1]
 have hg:(0:Int)<(Int.gcd n d:Int):=by have:=WM (x:=n) h;omega
 obtain ⟨k,hk⟩:=Int.gcd_dvd_left (a:=n) (b:=d)
 have e:=hn.e
 have hv:=hn.v0
 unfold We at e ⊢
 rw [hp]
 cases neg with
 |true =>
  simp only [if_true] at e ⊢
  have e2:dv B9 l=(Int.gcd n d:Int)*(-k):=by rw [Int.mul_neg,← hk];omega
  rw [e2,Int.mul_ediv_cancel_left _ (by omega)]
  have e3:n / (Int.gcd n d:Int)=k:=by
   conv=>lhs;lhs;rw [hk]
   exact Int.mul_ediv_cancel_left _ (by omega)
  rw [e3];omega
 |false =>
  simp only [Bool.false_eq_true,if_false] at e ⊢
  rw [← e]
theorem pJ {n d:Int} (h:0<d) {neg:Bool} {l p:List Int} (hn:V5 neg l d) (hp:dv B9 p=dv B9 l / (Int.gcd n d:Int)):dv B9 p=((Rat.divInt n d).den:Int):=by
 rw [(Kv h).2,hp]
 have:=hn.abs
 congr 1;omega
theorem xQ {n d:Int} {a b:Bool} {l m:List Int} (hn:V5 a l n) (hd:V5 b m d):Int.gcd (dv B9 l) (dv B9 m)=Int.gcd n d:=by
 rw [← hn.abs,← hd.abs];simp [Int.gcd]
theorem xX (x y:Int):Rat.divInt (-x) (-y)=Rat.divInt x y:=Rat.neg_divInt_neg x y
theorem OR {l:List Int} (h:DG B9 l) (hz:NZ l):(l.length=1∧Qb l 0=1)↔dv B9 l=1:=by
 constructor
 ·rintro ⟨h1,h2⟩
  obtain ⟨x,rfl⟩:=List.length_eq_one_iff.1 h1
  simp [Qb] at h2
  simp [dv,h2]
 ·intro e
  have:l=[1]:=jG SV h (DG.cons (by decide) (by decide) (DG.nil _)) hz (by simp [NZ]) (by rw [e];simp [dv])
  subst this;exact⟨rfl,rfl⟩
theorem yj {x:Rat} (h:(x.den:Int)=1):X0 x.num=Jg x:=by unfold Jg;rw [if_pos (by omega)]
theorem C8 {x:Rat} (h:¬ (x.den:Int)=1):X0 x.num++[47]++X0 (x.den:Int)=Jg x:=by
 unfold Jg;rw [if_neg (by omega),J3 (z:=(x.den:Int)) (by omega)];simp
theorem D2 {w:World} {F:Gs} {x y:Ri} {zx zy:Int} (hF:Fits F w) (hx:VZ F x zx) (hy:VZ F y zy) (h0:zy≠0) (hzx:sz zx≤500000) (hzy:sz zy≤500000):Qc Tryz.prog 180 [x.v,y.v] w F (tx (Jg (Rat.divInt zx zy))):=by
 obtain ⟨xn,⟨xq,xm,xc⟩,xl⟩:=x
 have px:=hx.p
 have lx:=px.len
 have kx:=hx.1.2.1
 have vx:=px.v0
 dsimp only at px lx kx vx
 obtain ⟨yn,⟨yq,ym,yc⟩,yl⟩:=y
 have py:=hy.p
 have ly:=py.len
 have ky:=hy.1.2.1
 have vy:=py.v0
 dsimp only at py ly ky vy
 dsimp only [Ri.v]
 have hny:=py.neg
 refine QT.intro (G:=fun F=>VZ F ⟨xn,⟨xq,xm,xc⟩,xl⟩ zx∧VZ F ⟨yn,⟨yq,ym,yc⟩,yl⟩ zy) Tryz.func180 rfl (by rfl) rfl rfl hF (fun F' hF'=>⟨hx.le hF',hy.le hF'⟩)<|J_sr<|Q5 rfl (vs:=[_,_]) rfl (fun b2=>Q5 rfl (vs:=[_,_]) rfl (fun b3=>JS_as rfl<|QE<|QC ?_))
 refine LO (ι:=cZ zx zy) [(2,_),(3,_)] (fun i=>[]) (fun i=>[(b3,.cells [.bool i.d.neg,.slice i.d.r.q i.d.r.n i.d.r.cap].toArray 143 (0,0)),(b2,.cells [.bool i.n.neg,.slice i.n.r.q i.n.r.n i.n.r.cap].toArray 143 (0,0))]) (fun i F=>VZ F i.n i.zn∧VZ F i.d i.zd) ⟨rfl,rfl,trivial⟩ ?_ ?_
 ·
  refine J_sr<|QA (QI rfl KW V7)<|QA (Qo rfl V7 .here (.here .nil))<|QE<|QC ?_
  refine QP rfl (fun hc=>?_) (fun hc=>?_)
  ·
   refine Xo 4 subl_r mixed (by kernel_rfl) (by kernel_rfl) ?_
   simp only [List.take_succ_cons,List.take_zero,List.drop_succ_cons,List.drop_zero]
   refine QM (QL (vs:=[_,_]) rfl JP (.there .here) (.here (.here .nil)) rfl)<|Qg rfl (fun w F hF h9=>jw hF (x:=⟨xn,⟨xq,xm,xc⟩,xl⟩) h9.1 (by omega)) (fun c14=>QM (QL (vs:=[_,_]) rfl JP .here (.here (.here .nil)) rfl)<|Qg rfl (fun w F hF h9=>jw hF (x:=⟨yn,⟨yq,ym,yc⟩,yl⟩) h9.1.2 (by omega)) (fun c16=>K6<|QQ (vs:=[_,_]) rfl rfl rfl JP rfl (.there .here) (.here (.here .nil)) ⟨rfl,rfl,trivial⟩<|QQ (vs:=[_,_]) rfl rfl rfl JP rfl .here (.here (.here .nil)) ⟨rfl,rfl,trivial⟩<|QE ?_))
   exact XE (⟨c14,c16,-zx,-zy,by rw [hc] at hny;have:=dec_t hny.symm;omega,xX _ _,by rw [YQ];exact hzx,by rw [YQ];exact hzy⟩) ⟨rfl,rfl,trivial⟩ subl_r (fun F h9=>⟨⟨h9.1.1.1,h9.1.1.2⟩,⟨h9.1.2,h9.2⟩⟩)
  ·
   refine QO ?_
   exact XE (⟨⟨xn,⟨xq,xm,xc⟩,xl⟩,⟨yn,⟨yq,ym,yc⟩,yl⟩,zx,zy,by rw [hc] at hny;have:=dec_f hny.symm;omega,rfl,hzx,hzy⟩) ⟨rfl,rfl,trivial⟩ subl_r (fun F ⟨hx,hy⟩=>⟨⟨hx,hy⟩,⟨hx,hy⟩⟩)
 ·intro i
  simp only [List.cons_append,List.nil_append]
  refine X3 _ (fun w F hF h=>And.intro h.2.1.p (And.intro h.2.2.p (And.intro h.2.1.1.2.1 h.2.2.1.2.1))) (fun pp=>?_)
  obtain ⟨pn,pd,kn,kd⟩:=pp
  have ln:=pn.len
  have ld:=pd.len
  have hsn:=i.sn
  have hsd:=i.sd
  have hi:=i.h
  have gg:=xQ pn pd
  have q1:=Ym (a:=i.zn) (b:=i.zd) (by omega)
  have q2:=Ji (Rat.divInt i.zn i.zd)
  have q3:=Jd (Rat.divInt i.zn i.zd)
  have q4:sz (Rat.divInt i.zn i.zd).num≤500000:=by omega
  have q5:sz ((Rat.divInt i.zn i.zd).den:Int)≤500000:=by omega
  refine J_sr<|QA (QI rfl Z6 Qv)<|QA (Qo rfl Qv (.there .here) (.skip (.here .nil)))<|QA (QI rfl Z6 Qv)<|QA (Qo rfl Qv .here (.skip (.here .nil))) ?_
  refine QH rfl (fun w F hF h9=>Cb hF (a:=i.n.l) (b:=i.d.l) (ra:=i.n.r) (rb:=i.d.r) h9.2.1.1 (h9.2.2.1) (pn.dg) (pd.dg) (pn.nz) (pd.nz) (by omega) (by omega)) (fun c21=>?_);rcases c21 with ⟨v21,l21⟩;dsimp only
  refine JH _ (fun w F hF ⟨⟨⟨hx,hy⟩,⟨hN,hD⟩⟩,⟨h21,h21p⟩⟩=>And.intro h21.2 h21p) (fun p21=>JS_as rfl<|JS_nt<|QG ?_)
  have g0:0<dv B9 l21:=by rw [p21.2.2.2,gg];have:=WM (x:=i.zn) i.h;omega
  have l21l:l21.length≤i.d.l.length:=by
   refine GB p21.2.1 pd.dg p21.2.2.1 ?_
   rw [p21.2.2.2,gg]
   have h1:(Int.gcd i.zn i.zd:Int)≤i.zd:=Int.le_of_dvd i.h (Int.gcd_dvd_right (a:=i.zn) (b:=i.zd))
   have h2:=pd.abs
   omega
  refine QB<|QA (QI rfl Z6 Qv)<|QA (Qo rfl Qv (.there .here) (.skip (.here .nil)))<|JS_mv rfl<|QH rfl (fun w F hF h9=>GX hF (a:=i.n.l) (b:=l21) (ra:=i.n.r) (rb:=v21) h9.1.2.1.1 (h9.2.1) (pn.dg) (p21.2.1) (pn.nz) (p21.2.2.1) (g0) (by omega) (by omega)) (fun c26=>JS_mv rfl<|QA (QK rfl rfl)<|QA (QK rfl rfl)<|JS_as rfl<|JS_as rfl<|JS_nt<|QG<|X3 _ (fun w F hF h=>And.intro h.2.1.2 h.2.1.1.2.1) (fun p26=>?_))
  obtain ⟨p26,n26⟩:=p26
  refine QB<|QA (QI rfl Z6 Qv)<|QA (Qo rfl Qv .here (.skip (.here .nil)))<|JS_mv rfl<|QH rfl (fun w F hF h9=>GX hF (a:=i.d.l) (b:=l21) (ra:=i.d.r) (rb:=v21) h9.1.1.2.2.1 (h9.1.2.1) (pd.dg) (p21.2.1) (pd.nz) (p21.2.2.1) (g0) (by omega) (by omega)) (fun c33=>JS_mv rfl<|QA (QK rfl rfl)<|QA (QK rfl rfl)<|JS_as rfl<|JS_as rfl<|JS_nt<|QG<|X3 _ (fun w F hF h=>And.intro h.2.1.2 h.2.1.1.2.1) (fun p33=>?_))
  obtain ⟨p33,n33⟩:=p33
  have en:We i.n.neg c26.1.2=(Rat.divInt i.zn i.zd).num:=pI i.h pn (by rw [p26.2.2,p21.2.2.2,gg])
  have ed:dv B9 c33.1.2=((Rat.divInt i.zn i.zd).den:Int):=pJ i.h pd (by rw [p33.2.2,p21.2.2.2,gg])
  have ed2:We false c33.1.2=((Rat.divInt i.zn i.zd).den:Int):=by rw [← ed];rfl
  have lnp:=GB p26.1 pn.dg p26.2.1 (by rw [p26.2.2];exact Int.ediv_le_self _ pn.v0)
  have lnq:=GB p33.1 pd.dg p33.2.1 (by rw [p33.2.2];exact Int.ediv_le_self _ pd.v0)
  have one1:=OR p33.1 p33.2.1
  have lr1:=Dp (Rat.divInt i.zn i.zd).num
  have lr2:=Dp ((Rat.divInt i.zn i.zd).den:Int)
  refine QB<|QA (QI rfl KW V7)<|QA (Qo rfl V7 (.there .here) (.here .nil))<|JS_mv rfl<|QH rfl (fun w F hF h9=>Z3 hF (r:=c26.1.1) (l:=c26.1.2) (neg:=i.n.neg) h9.1.2.1.1 (p26.1) (by first | omega | (simp;omega))) (fun c39=>QH rfl (fun w F hF h9=>C3 hF (zx:=(Rat.divInt i.zn i.zd).num) (by rw [← en];exact h9.2) (by omega)) (fun _=>JS_as rfl<|JS_nt<|QG<|J_sr<|JS_mv rfl<|QA (Qi rfl Qd)<|QA (QU rfl rfl rfl)<|JS_mv rfl ?_))
  refine Qn (t:=44) rfl (fun hb44=>?_) (fun hb44=>?_)
  ·
   have hn1:c33.1.1.n=1:=by simp at hb44;omega
   refine QJ rfl rfl<|JS_mv rfl<|QJ rfl rfl<|QA (JK (n:=c33.1.1.n) (0) (fun F h9=>(h9.1.1.2.1.1).1) rfl (congrArg (fun z:Int=>some (Value.int .i64 z)) (by omega)) Qd Qs (by omega))<|QJ rfl rfl<|QA (JM (n:=c33.1.1.n) ((0)*1) (fun F h9=>(h9.1.1.2.1.1).1) (by omega) rfl Qs (JJ (o:=c33.1.2) (by omega)))<|QJ rfl rfl<|QA (QU rfl rfl rfl)<|QA (Qj rfl rfl rfl)<|QE<|QC ?_
   refine QP rfl (fun hc=>?_) (fun hc=>?_)
   ·
    refine J_sr<|JS_mv rfl<|JS_as rfl<|JS_nt<|QS ?_
    exact F_r1 rfl rfl (by rw [← i.e];exact congrArg (fun l=>tx l) (yj (by rw [← ed];exact one1.1 ⟨by omega,by simpa using hc⟩)).symm) (fun F h9=>trivial)
   ·
    refine QO<|QC<|J_sr<|JS_mv rfl<|QA (Zf rfl rfl (by simp;omega))<|JS_mv rfl<|QH rfl (fun w F hF h9=>Z3 hF (r:=c33.1.1) (l:=c33.1.2) (neg:=false) h9.1.1.2.1.1 (p33.1) (by first | omega | (simp;omega))) (fun c54=>QH rfl (fun w F hF h9=>C3 hF (zx:=((Rat.divInt i.zn i.zd).den:Int)) (by rw [← ed2];exact h9.2) (by omega)) (fun _=>QA (Zf rfl rfl (by simp;omega))<|JS_as rfl<|JS_nt<|QS ?_))
    exact F_r1 rfl rfl (by rw [← i.e];exact congrArg (fun l=>tx l) (C8 (fun g=>by have:=one1.2 (by rw [ed];exact g);rw [this.2] at hc;simp at hc)).symm) (fun F h9=>trivial)
  ·
   have hn1:c33.1.1.n≠1:=by simp at hb44;omega
   refine QN rfl rfl rfl<|QN rfl rfl rfl<|QN rfl rfl rfl<|QN rfl rfl rfl<|QA (Qh rfl rfl rfl)<|JS_nt<|YF rfl<|QO<|QC<|J_sr<|JS_mv rfl<|QA (Zf rfl rfl (by simp;omega))<|JS_mv rfl<|QH rfl (fun w F hF h9=>Z3 hF (r:=c33.1.1) (l:=c33.1.2) (neg:=false) h9.1.1.2.1.1 (p33.1) (by first | omega | (simp;omega))) (fun c54=>QH rfl (fun w F hF h9=>C3 hF (zx:=((Rat.divInt i.zn i.zd).den:Int)) (by rw [← ed2];exact h9.2) (by omega)) (fun _=>QA (Zf rfl rfl (by simp;omega))<|JS_as rfl<|JS_nt<|QS ?_))
   exact F_r1 rfl rfl (by rw [← i.e];exact congrArg (fun l=>tx l) (C8 (fun g=>by have:=one1.2 (by rw [ed];exact g);omega)).symm) (fun F h9=>trivial)
end
section
open Go.RowKit Ig
theorem vR (x:Rat):(Wv x).num=(x.num.natAbs:Int)∧(Wv x).den=x.den:=by
 unfold Wv;split
 ·exact⟨by rw [Rat.neg_num];omega,by rw [Rat.neg_den]⟩
 ·exact⟨by omega,rfl⟩
theorem kF {z:Int} (h:z<0):X0 z=45::X0 (-z):=by
 rw [YI h,J3 (z:=-z) (by omega)];congr 2;omega
theorem Ax {x:Rat} (h:x.num<0):Jg x=45::Jg (-x):=by
 unfold Jg
 rw [Rat.neg_num,Rat.neg_den,kF h]
 split<;>rfl
theorem Nx (x:Rat):Lib.hasPrefix (Jg x) [45]=decide (x.num<0):=by
 by_cases h:x.num<0
 ·rw [Ax h];simp [Lib.hasPrefix,List.isPrefixOf,h]
 ·have e:(decide (x.num<0))=false:=by simpa using h
  rw [e]
  unfold Jg
  rw [J3 (by omega)]
  have hd:=Jb x.num.natAbs
  split
  ·exact Ka hd
  ·have hne:=Kw x.num.natAbs
   cases hl:Lib.decDigits x.num.natAbs with
   |nil=>exact absurd hl hne
   |cons c r =>
    have:=Ka hd
    rw [hl] at this
    simpa [Lib.hasPrefix,List.isPrefixOf] using this
theorem j3 (x:Rat):Lib.trimPrefix (Jg x) [45]=Jg (Wv x):=by
 unfold Lib.trimPrefix Wv
 rw [Nx]
 by_cases h:x.num<0
 ·rw [if_pos (by simpa using h),if_pos h,Ax h];rfl
 ·rw [if_neg (by simpa using h),if_neg h]
theorem Ly {l:List UInt8} (h:XH l=true) (hl:l.length≤9):JB l<1000000000:=by
 have h1:=Vv h
 have h2:10^l.length≤10^9:=Nat.pow_le_pow_right (by decide) hl
 omega
theorem Av {w:World} {F:Gs} {x:Rat} (hF:Fits F w) (hl:JO x≤100000):QT Tryz.prog 194 [tx (Jg x)] w F (fun(c:Int×Int×Bool)=>.tuple #[.int .i64 c.1,.int .i64 c.2.1,.bool c.2.2]) (fun c _=>y9 x c):=by
 have hlen:=Gd x
 have hlen2:=Gd (Wv x)
 rw [jr] at hlen2
 obtain ⟨an,ad⟩:=vR x
 have hah:=Bz XY (Jg (Wv x))
 have anT:X0 (Wv x).num=Lib.decDigits x.num.natAbs:=by rw [an,J3 (by omega)];rfl
 refine QT.intro (G:=fun F=>True) Tryz.func194 rfl (by rfl) rfl rfl hF (fun F' hF'=>trivial)<|J_sr<|JS_as rfl<|JS_as rfl<|JS_as rfl<|JS_nt<|J_sr<|JS_mv rfl<|JS_as rfl<|JS_nt<|QG<|J_sr<|JS_mv rfl<|QA (XA rfl Xn)<|QA (QU rfl rfl rfl)<|QE<|QC ?_
 refine QP rfl (fun hc=>?_) (fun hc=>?_)
 ·
  refine J_sr<|JS_as rfl<|JS_as rfl<|JS_as rfl<|JS_nt<|QS ?_
  exact JX ((0,0,false):Int×Int×Bool) rfl (.tmp rfl (.tmp rfl (.tmp rfl .nil))) (rfl) (fun F hT=>fun h=>by cases h)
 ·
  refine QO<|QC ?_
  refine K5 [(5,_)] [(6,.bool (decide (x.num<0)))] ⟨rfl,trivial⟩ ?_ ?_
  ·
   refine QB<|JS_mv rfl<|QA (XA rfl Xn)<|QA (QU rfl rfl rfl)<|JS_mv rfl ?_
   refine Qn (t:=17) rfl (fun hb17=>?_) (fun hb17=>?_)
   ·
    refine QJ rfl rfl<|JS_mv rfl<|QJ rfl rfl<|QA (Vw (i:=0) rfl rfl Xn (by have:=dec_t hb17;omega))<|QJ rfl rfl<|QA (QU rfl rfl rfl)<|QA (Qj rfl rfl rfl)<|JS_as rfl<|QE ?_
    exact ZB ⟨rfl,(congrArg (fun b=>some (Value.bool b)) (by have h0:0<(Jg x).length:=(by have:=dec_t hb17;omega);rw [← Nx,W6 h0];exact Em rfl)),trivial⟩ subl_r (fun _ h=>h)
   ·
    refine QN rfl rfl rfl<|QN rfl rfl rfl<|QN rfl rfl rfl<|QA (Qh rfl rfl rfl)<|JS_as rfl<|QE ?_
    exact ZB ⟨rfl,(congrArg (fun b=>some (Value.bool b)) (by have h0:(Jg x).length=0:=(by have:=dec_f hb17;omega);rw [← Nx,List.eq_nil_of_length_eq_zero h0];rfl)),trivial⟩ subl_r (fun _ h=>h)
  ·
   simp only [List.cons_append,List.nil_append]
   refine K5 [(6,_)] [(5,tx (Jg (Wv x)))] ⟨rfl,trivial⟩ ?_ ?_
   ·
    refine J_sr<|JS_mv rfl<|QE<|QC ?_
    refine QP rfl (fun hc=>?_) (fun hc=>?_)
    ·
     refine QB<|JS_mv rfl<|QA (Kr (1) rfl rfl Xn rfl (by have:=M3 (s:=Jg x) (by rw [Nx];exact hc);omega))<|JS_as rfl<|QE ?_
     exact ZB ⟨rfl,(congrArg (fun l=>some (tx l)) (by rw [← j3];unfold Lib.trimPrefix;rw [if_pos (by rw [Nx];exact hc)];rfl)),trivial⟩ subl_r (fun _ h=>h)
    ·
     refine QO ?_
     exact ZB ⟨rfl,(congrArg (fun l=>some (tx l)) (by rw [← j3];unfold Lib.trimPrefix;rw [Nx,hc];rfl)),trivial⟩ subl_r (fun _ h=>h)
   ·
    simp only [List.cons_append,List.nil_append]
    refine J_sr<|JS_mv rfl<|QH rfl (fun w F hF hT=>D0 hF (by omega)) (fun _=>JS_as rfl<|JS_nt<|QG<|J_sr<|JS_mv rfl<|QA (QU rfl rfl rfl)<|JS_mv rfl ?_)
    refine Qn (t:=29) rfl (fun hb29=>?_) (fun hb29=>?_)
    ·
     refine QN rfl rfl rfl<|QN rfl rfl rfl<|QN rfl rfl rfl<|QN rfl rfl rfl<|QN rfl rfl rfl<|QA (Qj rfl rfl rfl)<|JS_nt<|Wu rfl<|J_sr<|JS_as rfl<|JS_as rfl<|JS_as rfl<|JS_nt<|QS ?_
     exact JX ((0,0,false):Int×Int×Bool) rfl (.tmp rfl (.tmp rfl (.tmp rfl .nil))) (rfl) (fun F h9=>fun h=>by cases h)
    ·
     refine QJ rfl rfl<|JS_mv rfl<|QJ rfl rfl<|QA (XA rfl Xn)<|QJ rfl rfl<|JS_mv rfl<|QJ rfl rfl<|QA (J7 rfl rfl (by omega))<|QJ rfl rfl<|QA (QU rfl rfl rfl)<|QA (Qh rfl rfl rfl)<|QE<|QC ?_
     refine QP rfl (fun hc=>?_) (fun hc=>?_)
     ·
      refine J_sr<|JS_as rfl<|JS_as rfl<|JS_as rfl<|JS_nt<|QS ?_
      exact JX ((0,0,false):Int×Int×Bool) rfl (.tmp rfl (.tmp rfl (.tmp rfl .nil))) (rfl) (fun F h9=>fun h=>by cases h)
     ·
      have k9:ahead XY (Jg (Wv x))≤9∧(Jg (Wv x)).length - ahead XY (Jg (Wv x))≤10:=by
       have ha:=Bz XY (Jg (Wv x))
       first | (simp at hc hb29;omega) | (simp at hc;omega)
      have kt:(Jg (Wv x)).take (ahead XY (Jg (Wv x)))=X0 (Wv x).num:=by
       by_cases hd:(Wv x).den=1
       ·obtain ⟨e1,e2⟩:=RR hd
        rw [e2,List.take_length,e1]
       ·exact(Hi hd).2.2.1
      have kr:JB ((Jg (Wv x)).take (ahead XY (Jg (Wv x))))=x.num.natAbs:=by rw [kt,anT,XM]
      have hnum:x.num.natAbs<1000000000:=by
       have h1:=Ly (l:=X0 (Wv x).num) (by rw [anT];exact Jb _) (by rw [← kt,List.length_take];omega)
       rw [anT,XM] at h1;exact h1
      have hdn:x.den<1000000000:=by
       rw [← ad]
       by_cases hd:(Wv x).den=1
       ·omega
       ·obtain ⟨e1,e2,e3,e4⟩:=Hi hd
        have h1:=Ly (l:=Lib.decDigits (Wv x).den) (Jb _) (by rw [← e4,List.length_drop];omega)
        rw [XM] at h1;exact h1
      refine QO<|QC<|J_sr<|JS_mv rfl<|JS_mv rfl<|QA (Ha (ahead XY (Jg (Wv x))) rfl rfl Xn rfl (by omega))<|QH rfl (fun w F hF h9=>Mt hF (by rw [kt,anT];exact Jb _) (by rw [List.length_take];omega)) (fun _=>?_)
      rw [kr]
      refine JS_as rfl<|JS_as rfl<|QE<|QC ?_
      refine K5 [(6,_),(8,_)] [(9,.int .i64 (x.den:Int))] ⟨rfl,rfl,trivial⟩ ?_ ?_
      ·
       refine J_sr<|JS_mv rfl<|JS_mv rfl<|QA (XA rfl Xn)<|QA (QU rfl rfl rfl)<|QE<|QC ?_
       refine QP rfl (fun hc=>?_) (fun hc=>?_)
       ·
        have hlt:=dec_t hc
        have hd:¬ (Wv x).den=1:=fun g=>by have:=(RS (Wv x)).2 g;have:=dec_t hc;omega
        have kd:=(Hi hd).2.2.2
        have kd2:JB ((Jg (Wv x)).drop (ahead XY (Jg (Wv x))+1))=x.den:=by rw [kd,XM,ad]
        refine QB<|JS_mv rfl<|JS_mv rfl<|QA (Qp rfl rfl (by omega))<|QA (Kr ((ahead XY (Jg (Wv x))+1)) rfl rfl Xn (congrArg (fun z:Int=>some (Value.int .i64 z)) (by omega)) (by omega))<|QH rfl (fun w F hF h9=>Mt hF (by rw [kd];exact Jb _) (by rw [List.length_drop];omega)) (fun _=>?_)
        rw [kd2]
        refine JS_as rfl<|QE ?_
        exact ZB ⟨rfl,rfl,rfl,trivial⟩ subl_r (fun _ h=>h.1)
       ·
        have hd:(Wv x).den=1:=(RS (Wv x)).1 (by have:=dec_f hc;have:=Bz XY (Jg (Wv x));omega)
        refine QO ?_
        exact ZB ⟨rfl,rfl,(congrArg (fun z:Int=>some (Value.int .i64 z)) (by rw [← ad,hd];rfl)),trivial⟩ subl_r (fun _ h=>h)
      ·
       simp only [List.cons_append,List.nil_append]
       have hden:x.den<1000000000:=hdn
       refine K5 [(9,_)] [(8,.int .i64 (x.num))] ⟨rfl,trivial⟩ ?_ ?_
       ·
        refine J_sr<|JS_mv rfl<|QE<|QC ?_
        refine QP rfl (fun hc=>?_) (fun hc=>?_)
        ·
         refine QB<|JS_mv rfl<|QA (J7 rfl rfl (by omega))<|JS_as rfl<|QE ?_
         exact ZB ⟨rfl,(congrArg (fun z:Int=>some (Value.int .i64 z)) (by have:=dec_t hc;omega)),trivial⟩ subl_r (fun _ h=>h)
        ·
         refine QO ?_
         exact ZB ⟨rfl,(congrArg (fun z:Int=>some (Value.int .i64 z)) (by have:=dec_f hc;omega)),trivial⟩ subl_r (fun _ h=>h)
       ·
        simp only [List.cons_append,List.nil_append]
        refine J_sr<|JS_mv rfl<|JS_mv rfl<|JS_as rfl<|JS_as rfl<|JS_as rfl<|JS_nt<|QS ?_
        exact JX ((x.num,(x.den:Int),true):Int×Int×Bool) rfl (.tmp rfl (.tmp rfl (.tmp rfl .nil))) (rfl) (fun F h9=>fun _=>⟨rfl,rfl,hnum,hden⟩)
end
section
open Go.RowKit Ig
section
variable {P:Program} {N:Nat} {m:Sl} {S:World→Prop} {ty:TypeId}
theorem uN {T yT:TypeId} {x y:Operand} {a b:Int} (hx:ev m x=some (.int .i64 a)) (hy:ev m y=some (.int .i64 b)) (h:0<b) (h0 : -9223372036854775807≤a) (h1:a≤9223372036854775807):Qt P N m S (.binOp .quo T x y yT) ty (.int .i64 (a.tdiv b)):=by
 have:=I3 (P:=P) (N:=N) (m:=m) (S:=S) (ty:=ty) (T:=T) (yT:=yT) hx hy (by omega)
 have e:=Int.natAbs_tdiv a b
 have e2:a.natAbs.div b.natAbs≤a.natAbs:=Nat.div_le_self _ _
 rw [IntWalk.i64_in _ (by omega)] at this;exact this
end
theorem dW {w:World} {F:Gs} {x y:Int} (hF:Fits F w) (h0:0≤x) (h1:x≤9223372036854775807) (k0:0≤y) (k1:y≤9223372036854775807):Qc Tryz.prog 181 [.int .i64 x,.int .i64 y] w F (.int .i64 (Nat.gcd x.toNat y.toNat:Nat)):=by
 have:=vN (a:=x.toNat) (b:=y.toNat) hF (by omega) (by omega)
 rw [Int.toNat_of_nonneg h0,Int.toNat_of_nonneg k0] at this;exact this
theorem vm (z:Int):(if 0 - z>z then 0 - z else z)=((z.natAbs:Nat):Int):=by split<;>omega
theorem xZ (n:Nat):Nt n 1=Lib.decDigits n:=by
 rcases Nat.eq_zero_or_pos n with h | h
 ·subst h;unfold Nt hd;rw [if_pos rfl,Ze];rfl
 ·exact P9 h
theorem vc {n:Int} {d:Nat} (h:0<d):n.tdiv ((Nat.gcd n.natAbs d:Nat):Int)=(Rat.divInt n d).num:=by
 rw [(Kv (x:=n) (y:=(d:Int)) (by omega)).1]
 have e:(Nat.gcd n.natAbs d:Nat)=Int.gcd n (d:Int):=by simp [Int.gcd]
 rw [e]
 exact Int.tdiv_eq_ediv_of_dvd (Int.gcd_dvd_left (a:=n) (b:=(d:Int)))
theorem vd {n:Int} {d:Nat} (h:0<d):(d:Int) / ((Nat.gcd n.natAbs d:Nat):Int)=((Rat.divInt n d).den:Int):=by
 rw [(Kv (x:=n) (y:=(d:Int)) (by omega)).2]
 have e:(Nat.gcd n.natAbs d:Nat)=Int.gcd n (d:Int):=by simp [Int.gcd]
 rw [e]
theorem dn (n:Int) {d:Int} (h:d≠0):Rat.divInt (if d<0 then 0 - n else n) (d.natAbs:Int)=Rat.divInt n d:=by
 split
 ·rename_i g
  rw [show((d.natAbs:Nat):Int) = -d by omega,Int.zero_sub];exact Rat.neg_divInt_neg n d
 ·rw [show((d.natAbs:Nat):Int)=d by omega]
theorem ve {n:Int} {d:Nat} (h:0<d) (hn:n.natAbs≤4000000000000000000) (hd:d≤4000000000000000000):(Rat.divInt n d).num.natAbs≤4000000000000000000∧(Rat.divInt n d).den≤4000000000000000000∧0<(Rat.divInt n d).den:=by
 have e1:=vc (n:=n) h
 have e2:=vd (n:=n) h
 have k1:=Int.natAbs_tdiv n ((Nat.gcd n.natAbs d:Nat):Int)
 have k2:n.natAbs.div ((Nat.gcd n.natAbs d:Nat):Int).natAbs≤n.natAbs:=Nat.div_le_self _ _
 have k3:(d:Int) / ((Nat.gcd n.natAbs d:Nat):Int)≤(d:Int):=Int.ediv_le_self _ (by omega)
 have k4:=(Rat.divInt n d).den_pos
 rw [e1] at k1
 omega
theorem xF (z:Int):(if z<0 then [45] else [])++Lib.decDigits z.natAbs=X0 z:=by
 split
 ·rename_i h;rw [YI h];rfl
 ·rw [J3 (by omega)];rfl
theorem dP {z:Int} (h : -9223372036854775808≤z∧z≤9223372036854775807):sz z≤64:=by
 rw [Xv];omega
theorem pj {w:World} {F:Gs} {num den:Int} (hF:Fits F w) (hn : -9223372036854775808≤num∧num≤9223372036854775807) (hd : -9223372036854775808≤den∧den≤9223372036854775807) (h0:den≠0):Qc Tryz.prog 74 [.int .i64 num,.int .i64 den] w F (tx (Jg (Rat.divInt num den))):=by
 refine QT.intro (G:=fun F=>True) Tryz.func74 rfl (by rfl) rfl rfl hF (fun F' hF'=>trivial)<|J_sr<|JS_as rfl<|JS_nt<|QG ?_
 refine K5 [(0,_),(1,_)] [(20,.bool (decide (num < -4000000000000000000∨num>4000000000000000000∨den < -4000000000000000000∨den>4000000000000000000)))] ⟨rfl,rfl,trivial⟩ ?_ ?_
 ·
  refine QB<|JS_mv rfl<|QA (QU rfl rfl rfl)<|JS_mv rfl ?_
  refine Qn (t:=9) rfl (fun hb9=>?_) (fun hb9=>?_)
  ·
   refine QN rfl rfl rfl<|QN rfl rfl rfl<|QA (Qj rfl rfl rfl)<|JS_mv rfl<|QN rfl rfl rfl<|QN rfl rfl rfl<|QA (Qj rfl rfl rfl)<|JS_mv rfl<|QN rfl rfl rfl<|QN rfl rfl rfl<|QA (Qj rfl rfl rfl)<|QE ?_
   exact ZB ⟨rfl,rfl,(congrArg (fun b=>some (Value.bool b)) (by rw [Bool.eq_iff_iff];simp_all;try omega)),trivial⟩ subl_r (fun _ h=>h)
  ·
   refine QJ rfl rfl<|JS_mv rfl<|QJ rfl rfl<|QA (QU rfl rfl rfl)<|QA (Qh rfl rfl rfl)<|JS_mv rfl ?_
   refine Qn (t:=13) rfl (fun hb13=>?_) (fun hb13=>?_)
   ·
    refine QN rfl rfl rfl<|QN rfl rfl rfl<|QA (Qj rfl rfl rfl)<|JS_mv rfl<|QN rfl rfl rfl<|QN rfl rfl rfl<|QA (Qj rfl rfl rfl)<|QE ?_
    exact ZB ⟨rfl,rfl,(congrArg (fun b=>some (Value.bool b)) (by rw [Bool.eq_iff_iff];simp_all;try omega)),trivial⟩ subl_r (fun _ h=>h)
   ·
    refine QJ rfl rfl<|JS_mv rfl<|QJ rfl rfl<|QA (QU rfl rfl rfl)<|QA (Qh rfl rfl rfl)<|JS_mv rfl ?_
    refine Qn (t:=17) rfl (fun hb17=>?_) (fun hb17=>?_)
    ·
     refine QN rfl rfl rfl<|QN rfl rfl rfl<|QA (Qj rfl rfl rfl)<|QE ?_
     exact ZB ⟨rfl,rfl,(congrArg (fun b=>some (Value.bool b)) (by rw [Bool.eq_iff_iff];simp_all;try omega)),trivial⟩ subl_r (fun _ h=>h)
    ·
     refine QJ rfl rfl<|JS_mv rfl<|QJ rfl rfl<|QA (QU rfl rfl rfl)<|QA (Qh rfl rfl rfl)<|QE ?_
     exact ZB ⟨rfl,rfl,(congrArg (fun b=>some (Value.bool b)) (by rw [Bool.eq_iff_iff];simp_all;try omega)),trivial⟩ subl_r (fun _ h=>h)
 ·
  simp only [List.cons_append,List.nil_append]
  refine QP rfl (fun hc=>?_) (fun hc=>?_)
  ·
   refine J_sr<|JS_mv rfl<|QH rfl (fun w F hF hT=>MW hF (by omega)) (fun c22=>JS_mv rfl<|QH rfl (fun w F hF h9=>MW hF (by omega)) (fun c24=>QH rfl (fun w F hF h9=>D2 hF (h9.1.2) (h9.2) (h0) (by have:=dP hn;omega) (by have:=dP hd;omega)) (fun _=>JS_as rfl<|JS_nt<|QS ?_)))
   exact F_r1 rfl rfl (rfl) (fun F h9=>trivial)
  ·
   have hb:¬ (num < -4000000000000000000∨num>4000000000000000000∨den < -4000000000000000000∨den>4000000000000000000):=dec_f hc
   refine QO<|QC ?_
   refine K5 [] [(0,.int .i64 (if den<0 then 0 - num else num)),(1,.int .i64 ((den.natAbs:Nat):Int))] trivial ?_ ?_
   ·
    refine J_sr<|JS_mv rfl<|QA (QU rfl rfl rfl)<|QE<|QC ?_
    refine QP rfl (fun hc=>?_) (fun hc=>?_)
    ·
     refine QB<|JS_mv rfl<|QA (J7 rfl rfl (by omega))<|JS_mv rfl<|QA (J7 rfl rfl (by omega))<|JS_as rfl<|JS_as rfl<|QE ?_
     exact ZB ⟨(congrArg (fun z:Int=>some (Value.int .i64 z)) (if_pos (dec_t hc)).symm),(congrArg (fun z:Int=>some (Value.int .i64 z)) (by have:=dec_t hc;omega)),trivial⟩ subl_r (fun _ h=>h)
    ·
     refine QO ?_
     exact ZB ⟨(congrArg (fun z:Int=>some (Value.int .i64 z)) (if_neg (dec_f hc)).symm),(congrArg (fun z:Int=>some (Value.int .i64 z)) (by have:=dec_f hc;omega)),trivial⟩ subl_r (fun _ h=>h)
   ·
    simp only [List.cons_append,List.nil_append]
    have hq:=dn num h0
    have b1:(if den<0 then 0 - num else num).natAbs≤4000000000000000000:=by split<;>omega
    generalize (if den<0 then 0 - num else num)=n1 at *
    obtain ⟨c1,c2,c3⟩:=ve (n:=n1) (d:=den.natAbs) (by omega) b1 (by omega)
    have hg:0<Nat.gcd n1.natAbs den.natAbs:=Nat.gcd_pos_of_pos_right _ (by omega)
    have lr1:=Dp (Rat.divInt n1 (den.natAbs:Int)).num
    have lr2:=UL (Rat.divInt n1 (den.natAbs:Int)).den
    have lz1:=dP (z:=(Rat.divInt n1 (den.natAbs:Int)).num) (by omega)
    have lz2:=dP (z:=((Rat.divInt n1 (den.natAbs:Int)).den:Int)) (by omega)
    have e1:=vc (n:=n1) (d:=den.natAbs) (by omega)
    have e2:=vd (n:=n1) (d:=den.natAbs) (by omega)
    refine J_sr<|JS_mv rfl<|JS_mv rfl<|QA (J7 rfl rfl (by omega))<|QA (vV rfl rfl) ?_
    rw [vm]
    refine JS_mv rfl<|QH rfl (fun w F hF hT=>dW hF (by omega) (by omega) (by omega) (by omega)) (fun _=>JS_as rfl<|JS_nt<|QG<|JR subl_r mixed (by kernel_rfl) ?_)
    simp only [Int.toNat_natCast]
    refine QM (QD rfl)<|QM (QD rfl)<|QM (uN rfl rfl (by omega) (by omega) (by omega)) ?_
    rw [e1]
    refine QM (QD rfl)<|QM (QD rfl)<|QM (Wh rfl rfl (by omega) (by omega) (by omega)) ?_
    rw [e2]
    refine QM (QF rfl)<|QM (QF rfl)<|Q9<|QC<|J_sr<|JS_as rfl<|QE<|QC ?_
    refine K5 [(0,_),(1,_)] [(6,tx (if(Rat.divInt n1 (den.natAbs:Int)).num<0 then [45] else []))] ⟨rfl,rfl,trivial⟩ ?_ ?_
    ·
     refine J_sr<|JS_mv rfl<|QA (QU rfl rfl rfl)<|QE<|QC ?_
     refine QP rfl (fun hc=>?_) (fun hc=>?_)
     ·
      refine QB<|JS_as rfl<|QE ?_
      exact ZB ⟨rfl,rfl,(congrArg (fun l=>some (tx l)) (if_pos (dec_t hc)).symm),trivial⟩ subl_r (fun _ h=>h)
     ·
      refine QO ?_
      exact ZB ⟨rfl,rfl,(congrArg (fun l=>some (tx l)) (if_neg (dec_f hc)).symm),trivial⟩ subl_r (fun _ h=>h)
    ·
     simp only [List.cons_append,List.nil_append]
     refine J_sr<|JS_mv rfl<|JS_mv rfl<|JS_mv rfl<|QA (J7 rfl rfl (by omega))<|QA (vV rfl rfl) ?_
     rw [vm]
     refine QH rfl (fun w F hF h9=>Nw hF (least:=1) (by omega) (by omega) (by omega)) (fun _=>?_)
     simp only [Int.toNat_natCast,xZ]
     refine QA (Zf rfl rfl (by have e:=congrArg List.length (xF (Rat.divInt n1 (den.natAbs:Int)).num);rw [List.length_append] at e;omega))<|JS_as rfl<|JS_nt<|QG<|QG<|QB ?_
     rw [xF]
     refine JS_mv rfl<|QA (QU rfl rfl rfl)<|QE<|QC ?_
     refine QP rfl (fun hc=>?_) (fun hc=>?_)
     ·
      have hd1:¬ ((Rat.divInt n1 (den.natAbs:Int)).den:Int)=1:=by have:=dec_t hc;omega
      refine QB<|JS_mv rfl<|QA (Zf rfl rfl (by simp only [List.length_append,List.length_cons,List.length_nil];omega))<|JS_mv rfl<|QH rfl (fun w F hF h9=>Nw hF (least:=1) (by omega) (by omega) (by omega)) (fun _=>?_)
      simp only [Int.toNat_natCast,xZ]
      refine QA (Zf rfl rfl (by simp only [List.length_append,List.length_cons,List.length_nil];omega))<|JS_as rfl<|JS_nt<|J_sr<|JS_mv rfl<|JS_as rfl<|JS_nt<|QS ?_
      exact F_r1 rfl rfl (by rw [← hq];exact congrArg (fun l=>tx l) (by rw [← C8 hd1,A5])) (fun F h9=>trivial)
     ·
      have hd1:((Rat.divInt n1 (den.natAbs:Int)).den:Int)=1:=by have:=dec_f hc;omega
      refine QO<|QC<|J_sr<|JS_mv rfl<|JS_as rfl<|JS_nt<|QS ?_
      exact F_r1 rfl rfl (by rw [← hq];exact congrArg (fun l=>tx l) (yj hd1).symm) (fun F h9=>trivial)
end
section
open Go.RowKit Ig
theorem xG (x:Rat):x.num<0↔x<0:=by rw [← Rat.not_le,← Rat.num_nonneg];omega
theorem yz (x:Rat):zT (Jg x)=Jg (-x):=by
 unfold zT Nv
 rw [Nx]
 by_cases h0:Jg x=[48]
 ·rw [if_pos h0]
  have hx:x=0:=by
   have hv:=YG x.num
   by_cases hd:x.den=1
   ·rw [(RR hd).1] at h0
    rw [h0] at hv
    have:x.num=0:=by rw [← hv];rfl
    exact Rat.num_eq_zero.1 this
   ·have:=(Hi hd).2.2.1
    have h1:=(Hi hd).2.1
    rw [h0] at h1
    have h2:=(Hi hd).1
    have h3:0<(X0 x.num).length:=by
     rcases Nat.eq_zero_or_pos (X0 x.num).length with g | g
     ·have e:=List.eq_nil_of_length_eq_zero g
      unfold X0 at e
      rcases Int.lt_or_le x.num 0 with q | q
      ·have:=YI q;unfold X0 at this;rw [this] at e;cases e
      ·have:=J3 q;unfold X0 at this;rw [this] at e;exact absurd e (Kw _)
     ·exact g
    rw [h0] at h2
    simp at h1;omega
  subst hx
  have e:(-0:Rat)=0:=by decide
  rw [e,if_neg (by decide),if_pos rfl]
 ·rw [if_neg h0]
  by_cases hn:x.num<0
  ·rw [if_pos (show(decide (x.num<0))=true by simpa using hn),if_pos (by decide),Ax hn];rfl
  ·rw [if_neg (show ¬ (decide (x.num<0))=true by simpa using hn),if_neg (by decide),if_neg (by decide)]
   have h1:(-x).num<0:=by
    rw [Rat.neg_num]
    have:x.num≠0:=by
     intro e
     have:=Rat.num_eq_zero.1 e
     subst this
     exact h0 S8
    omega
   have:=Ax h1
   rw [Rat.neg_neg] at this
   exact this.symm
theorem jt (x:Rat):Nv (Jg x)=Nr x.num:=by
 unfold Nv
 rw [Nx]
 by_cases h0:x=0
 ·subst h0;rw [if_pos S8];rfl
 ·have hn:x.num≠0:=fun e=>h0 (Rat.num_eq_zero.1 e)
  have h1:Jg x≠[48]:=by
   intro e
   have h2:=yz x
   unfold zT Nv at h2
   rw [if_pos e,if_neg (by decide),if_pos rfl,e] at h2
   by_cases hd:x.den=1
   ·have hv:=YG x.num
    rw [← (RR hd).1,e] at hv
    exact hn hv.symm
   ·have:=(Hi hd).2.2.1
    have hv:=YG x.num
    rw [← this,e] at hv
    have h3:=(Hi hd).2.1
    rw [e] at h3
    have h4:ahead XY [48]=1:=by decide
    rw [h4] at h3
    exact absurd h3 (by decide)
  rw [if_neg h1]
  unfold Nr
  by_cases g:x.num<0
  ·rw [if_pos (show(decide (x.num<0))=true by simpa using g),if_pos g]
  ·rw [if_neg (show ¬ (decide (x.num<0))=true by simpa using g),if_neg g,if_neg hn]
theorem Xer (x:Rat):x.num / (x.den:Int)=x.floor:=(Rat.floor_def x).symm
theorem Xfn {x:Rat} (h:x.den=1):x.floor=x.num:=by rw [← Xer,h];exact Int.ediv_one _
theorem inv_divInt {x:Rat} (_:x.num≠0):Rat.divInt x.den x.num=x⁻¹:=(Rat.inv_def x).symm
theorem dS (x:Rat):Nr x.num=if x<0 then -1 else if x=0 then 0 else 1:=by
 unfold Nr
 by_cases h:x<0
 ·rw [if_pos h,if_pos ((xG x).2 h)]
 ·rw [if_neg h,if_neg (fun g=>h ((xG x).1 g))]
  by_cases h0:x=0
  ·rw [if_pos h0,if_pos (Rat.num_eq_zero.2 h0)]
  ·rw [if_neg h0,if_neg (fun g=>h0 (Rat.num_eq_zero.1 g))]
theorem pP (x y:Rat):Nr (x - y).num=DY x y:=by
 rw [dS]
 unfold DY
 have h1:(x - y<0)↔x<y:=by grind
 have h2:(x - y=0)↔x=y:=by grind
 simp only [h1,h2]
theorem pH (n:Int):Jg (n:Rat)=X0 n:=by unfold Jg;rw [if_pos (by simp)];simp
theorem vQ {w:World} {F:Gs} {x y:Rat} (hF:Fits F w) (hx:JO x≤100000) (hy:JO y≤100000):Qc Tryz.prog 92 [tx (Jg x),tx (Jg y)] w F (tx (Jg (x+y))):=by
 refine QT.intro (G:=fun F=>True) Tryz.func92 rfl (by rfl) rfl rfl hF (fun F' hF'=>trivial)<|J_sr<|JS_as rfl<|JS_nt<|J_sr<|JS_mv rfl<|QH rfl (fun w F hF hT=>Av hF (hx)) (fun c17=>JH _ (fun w F hF h9=>h9.2) (fun p17=>JS_mv rfl<|QA (QK rfl rfl)<|QA (QK rfl rfl)<|QA (QK rfl rfl)<|JS_as rfl<|JS_as rfl<|JS_as rfl<|JS_nt<|J_sr<|JS_mv rfl<|QH rfl (fun w F hF h9=>Av hF (hy)) (fun c23=>JH _ (fun w F hF h9=>h9.2) (fun p23=>?_))))
 refine JS_mv rfl<|QA (QK rfl rfl)<|QA (QK rfl rfl)<|QA (QK rfl rfl)<|JS_as rfl<|JS_as rfl<|JS_as rfl<|JS_nt<|QG<|J_sr<|JS_mv rfl<|JS_mv rfl ?_
 refine Qn (t:=28) rfl (fun hb28=>?_) (fun hb28=>?_)
 ·
  refine QJ rfl rfl<|JS_mv rfl<|QA (Qj rfl rfl rfl)<|QE<|QC ?_
  refine QP rfl (fun hc=>?_) (fun hc=>?_)
  ·
   refine QG ?_
   obtain ⟨a1,a2,a3,a4⟩:=p17 hb28
   obtain ⟨b1,b2,b3,b4⟩:=p23 hc
   have xd:=x.den_pos
   have yd:=y.den_pos
   have e1:(x.num*y.den).natAbs<1000000000*1000000000:=by rw [Int.natAbs_mul];exact Nat.mul_lt_mul_of_lt_of_lt a3 (by omega)
   have e2:(y.num*x.den).natAbs<1000000000*1000000000:=by rw [Int.natAbs_mul];exact Nat.mul_lt_mul_of_lt_of_lt b3 (by omega)
   have e3:(x.num*y.num).natAbs<1000000000*1000000000:=by rw [Int.natAbs_mul];exact Nat.mul_lt_mul_of_lt_of_lt a3 b3
   have e4:((x.den:Int)*y.den).natAbs<1000000000*1000000000:=by rw [Int.natAbs_mul];exact Nat.mul_lt_mul_of_lt_of_lt (by omega) (by omega)
   have e5:(x.den:Int)*y.den≠0:=by have h1:=Yr x;have h2:=Yr y;exact Int.mul_ne_zero h1 h2
   rw [a1,a2,b1,b2]
   refine QB<|JS_mv rfl<|JS_mv rfl<|QA (Wo rfl rfl (by omega))<|JS_mv rfl<|JS_mv rfl<|QA (Wo rfl rfl (by omega))<|QA (Qp rfl rfl (by omega))<|JS_mv rfl<|JS_mv rfl<|QA (Wo rfl rfl (by omega))<|QH rfl (fun w F hF h9=>pj hF (by omega) (by omega) (e5)) (fun _=>JS_as rfl<|JS_nt<|QS ?_)
   exact F_r1 rfl rfl (by rw [GJ]) (fun F h9=>trivial)
  ·
   refine QO<|QC<|QG ?_
   have s1:=Ji x
   have s2:=Jd x
   have s3:=Ji y
   have s4:=Jd y
   have m1:=Vo x.num y.den
   have m2:=Vo y.num x.den
   have m3:=Vo (x.den:Int) y.den
   have m4:=Vo x.num y.num
   have m5:=Uk (x.num*y.den) (y.num*x.den)
   have e5:(x.den:Int)*y.den≠0:=Int.mul_ne_zero (Yr x) (Yr y)
   refine QB<|JS_mv rfl<|QH rfl (fun w F hF h9=>BO hF (hx)) (fun c44=>JS_mv rfl<|QA (QK rfl rfl)<|QA (QK rfl rfl)<|Qf Yj (fun b11=>Qf Yj (fun b12=>QQ (vs:=[_,_]) rfl rfl rfl JP rfl (.there .here) (.here (.here .nil)) ⟨rfl,rfl,trivial⟩<|QQ (vs:=[_,_]) rfl rfl rfl JP rfl .here (.here (.here .nil)) ⟨rfl,rfl,trivial⟩<|JS_nt<|J_sr<|JS_mv rfl<|QH rfl (fun w F hF h9=>BO hF (hy)) (fun c49=>JS_mv rfl<|QA (QK rfl rfl)<|QA (QK rfl rfl)<|Qf Yj (fun b13=>Qf Yj (fun b14=>QQ (vs:=[_,_]) rfl rfl rfl JP rfl (.there .here) (.here (.here .nil)) ⟨rfl,rfl,trivial⟩<|QQ (vs:=[_,_]) rfl rfl rfl JP rfl .here (.here (.here .nil)) ⟨rfl,rfl,trivial⟩<|QE<|QC ?_))))))
   refine QG<|JR subl_r mixed (by kernel_rfl)<|QM (QL (vs:=[_,_]) rfl JP (.there (.there (.there .here))) (.here (.here .nil)) rfl)<|QM (QL (vs:=[_,_]) rfl JP .here (.here (.here .nil)) rfl)<|Qg rfl (fun w F hF h9=>G6 hF (h9.1.2.1) (h9.2.2) (by omega) (by omega)) (fun c54=>QM (QL (vs:=[_,_]) rfl JP (.there .here) (.here (.here .nil)) rfl)<|QM (QL (vs:=[_,_]) rfl JP (.there (.there .here)) (.here (.here .nil)) rfl)<|Qg rfl (fun w F hF h9=>G6 hF (h9.1.2.1) (h9.1.1.2.2) (by omega) (by omega)) (fun c57=>Qg rfl (fun w F hF h9=>yh hF (h9.1.2) (h9.2) (by omega) (by omega)) (fun c58=>QM (QL (vs:=[_,_]) rfl JP (.there (.there .here)) (.here (.here .nil)) rfl)<|QM (QL (vs:=[_,_]) rfl JP .here (.here (.here .nil)) rfl)<|Qg rfl (fun w F hF h9=>G6 hF (h9.1.1.1.1.2.2) (h9.1.1.1.2.2) (by omega) (by omega)) (fun c61=>Qg rfl (fun w F hF h9=>D2 hF (h9.1.2) (h9.2) (e5) (by omega) (by omega)) (fun _=>QM (QF rfl)<|Q9<|QC<|QS ?_)))))
   exact F_r1 rfl rfl (by rw [GJ]) (fun F h9=>trivial)
 ·
  refine QN rfl rfl rfl<|QA (Qh rfl rfl rfl)<|JS_nt<|YF rfl<|QO<|QC<|QG ?_
  have s1:=Ji x
  have s2:=Jd x
  have s3:=Ji y
  have s4:=Jd y
  have m1:=Vo x.num y.den
  have m2:=Vo y.num x.den
  have m3:=Vo (x.den:Int) y.den
  have m4:=Vo x.num y.num
  have m5:=Uk (x.num*y.den) (y.num*x.den)
  have e5:(x.den:Int)*y.den≠0:=Int.mul_ne_zero (Yr x) (Yr y)
  refine QB<|JS_mv rfl<|QH rfl (fun w F hF h9=>BO hF (hx)) (fun c44=>JS_mv rfl<|QA (QK rfl rfl)<|QA (QK rfl rfl)<|Qf Yj (fun b11=>Qf Yj (fun b12=>QQ (vs:=[_,_]) rfl rfl rfl JP rfl (.there .here) (.here (.here .nil)) ⟨rfl,rfl,trivial⟩<|QQ (vs:=[_,_]) rfl rfl rfl JP rfl .here (.here (.here .nil)) ⟨rfl,rfl,trivial⟩<|JS_nt<|J_sr<|JS_mv rfl<|QH rfl (fun w F hF h9=>BO hF (hy)) (fun c49=>JS_mv rfl<|QA (QK rfl rfl)<|QA (QK rfl rfl)<|Qf Yj (fun b13=>Qf Yj (fun b14=>QQ (vs:=[_,_]) rfl rfl rfl JP rfl (.there .here) (.here (.here .nil)) ⟨rfl,rfl,trivial⟩<|QQ (vs:=[_,_]) rfl rfl rfl JP rfl .here (.here (.here .nil)) ⟨rfl,rfl,trivial⟩<|QE<|QC ?_))))))
  refine QG<|JR subl_r mixed (by kernel_rfl)<|QM (QL (vs:=[_,_]) rfl JP (.there (.there (.there .here))) (.here (.here .nil)) rfl)<|QM (QL (vs:=[_,_]) rfl JP .here (.here (.here .nil)) rfl)<|Qg rfl (fun w F hF h9=>G6 hF (h9.1.2.1) (h9.2.2) (by omega) (by omega)) (fun c54=>QM (QL (vs:=[_,_]) rfl JP (.there .here) (.here (.here .nil)) rfl)<|QM (QL (vs:=[_,_]) rfl JP (.there (.there .here)) (.here (.here .nil)) rfl)<|Qg rfl (fun w F hF h9=>G6 hF (h9.1.2.1) (h9.1.1.2.2) (by omega) (by omega)) (fun c57=>Qg rfl (fun w F hF h9=>yh hF (h9.1.2) (h9.2) (by omega) (by omega)) (fun c58=>QM (QL (vs:=[_,_]) rfl JP (.there (.there .here)) (.here (.here .nil)) rfl)<|QM (QL (vs:=[_,_]) rfl JP .here (.here (.here .nil)) rfl)<|Qg rfl (fun w F hF h9=>G6 hF (h9.1.1.1.1.2.2) (h9.1.1.1.2.2) (by omega) (by omega)) (fun c61=>Qg rfl (fun w F hF h9=>D2 hF (h9.1.2) (h9.2) (e5) (by omega) (by omega)) (fun _=>QM (QF rfl)<|Q9<|QC<|QS ?_)))))
  exact F_r1 rfl rfl (by rw [GJ]) (fun F h9=>trivial)
theorem uJ {w:World} {F:Gs} {x y:Rat} (hF:Fits F w) (hx:JO x≤100000) (hy:JO y≤100000):Qc Tryz.prog 93 [tx (Jg x),tx (Jg y)] w F (tx (Jg (x*y))):=by
 refine QT.intro (G:=fun F=>True) Tryz.func93 rfl (by rfl) rfl rfl hF (fun F' hF'=>trivial)<|J_sr<|JS_as rfl<|JS_nt<|J_sr<|JS_mv rfl<|QH rfl (fun w F hF hT=>Av hF (hx)) (fun c17=>JH _ (fun w F hF h9=>h9.2) (fun p17=>JS_mv rfl<|QA (QK rfl rfl)<|QA (QK rfl rfl)<|QA (QK rfl rfl)<|JS_as rfl<|JS_as rfl<|JS_as rfl<|JS_nt<|J_sr<|JS_mv rfl<|QH rfl (fun w F hF h9=>Av hF (hy)) (fun c23=>JH _ (fun w F hF h9=>h9.2) (fun p23=>?_))))
 refine JS_mv rfl<|QA (QK rfl rfl)<|QA (QK rfl rfl)<|QA (QK rfl rfl)<|JS_as rfl<|JS_as rfl<|JS_as rfl<|JS_nt<|QG<|J_sr<|JS_mv rfl<|JS_mv rfl ?_
 refine Qn (t:=28) rfl (fun hb28=>?_) (fun hb28=>?_)
 ·
  refine QJ rfl rfl<|JS_mv rfl<|QA (Qj rfl rfl rfl)<|QE<|QC ?_
  refine QP rfl (fun hc=>?_) (fun hc=>?_)
  ·
   refine QG ?_
   obtain ⟨a1,a2,a3,a4⟩:=p17 hb28
   obtain ⟨b1,b2,b3,b4⟩:=p23 hc
   have xd:=x.den_pos
   have yd:=y.den_pos
   have e1:(x.num*y.den).natAbs<1000000000*1000000000:=by rw [Int.natAbs_mul];exact Nat.mul_lt_mul_of_lt_of_lt a3 (by omega)
   have e2:(y.num*x.den).natAbs<1000000000*1000000000:=by rw [Int.natAbs_mul];exact Nat.mul_lt_mul_of_lt_of_lt b3 (by omega)
   have e3:(x.num*y.num).natAbs<1000000000*1000000000:=by rw [Int.natAbs_mul];exact Nat.mul_lt_mul_of_lt_of_lt a3 b3
   have e4:((x.den:Int)*y.den).natAbs<1000000000*1000000000:=by rw [Int.natAbs_mul];exact Nat.mul_lt_mul_of_lt_of_lt (by omega) (by omega)
   have e5:(x.den:Int)*y.den≠0:=by have h1:=Yr x;have h2:=Yr y;exact Int.mul_ne_zero h1 h2
   rw [a1,a2,b1,b2]
   refine QB<|JS_mv rfl<|JS_mv rfl<|QA (Wo rfl rfl (by omega))<|JS_mv rfl<|JS_mv rfl<|QA (Wo rfl rfl (by omega))<|QH rfl (fun w F hF h9=>pj hF (by omega) (by omega) (e5)) (fun _=>JS_as rfl<|JS_nt<|QS ?_)
   exact F_r1 rfl rfl (by rw [GA]) (fun F h9=>trivial)
  ·
   refine QO<|QC<|QG ?_
   have s1:=Ji x
   have s2:=Jd x
   have s3:=Ji y
   have s4:=Jd y
   have m1:=Vo x.num y.den
   have m2:=Vo y.num x.den
   have m3:=Vo (x.den:Int) y.den
   have m4:=Vo x.num y.num
   have m5:=Uk (x.num*y.den) (y.num*x.den)
   have e5:(x.den:Int)*y.den≠0:=Int.mul_ne_zero (Yr x) (Yr y)
   refine QB<|JS_mv rfl<|QH rfl (fun w F hF h9=>BO hF (hx)) (fun c40=>JS_mv rfl<|QA (QK rfl rfl)<|QA (QK rfl rfl)<|Qf Yj (fun b11=>Qf Yj (fun b12=>QQ (vs:=[_,_]) rfl rfl rfl JP rfl (.there .here) (.here (.here .nil)) ⟨rfl,rfl,trivial⟩<|QQ (vs:=[_,_]) rfl rfl rfl JP rfl .here (.here (.here .nil)) ⟨rfl,rfl,trivial⟩<|JS_nt<|J_sr<|JS_mv rfl<|QH rfl (fun w F hF h9=>BO hF (hy)) (fun c45=>JS_mv rfl<|QA (QK rfl rfl)<|QA (QK rfl rfl)<|Qf Yj (fun b13=>Qf Yj (fun b14=>QQ (vs:=[_,_]) rfl rfl rfl JP rfl (.there .here) (.here (.here .nil)) ⟨rfl,rfl,trivial⟩<|QQ (vs:=[_,_]) rfl rfl rfl JP rfl .here (.here (.here .nil)) ⟨rfl,rfl,trivial⟩<|QE<|QC ?_))))))
   refine QG<|JR subl_r mixed (by kernel_rfl)<|QM (QL (vs:=[_,_]) rfl JP (.there (.there (.there .here))) (.here (.here .nil)) rfl)<|QM (QL (vs:=[_,_]) rfl JP (.there .here) (.here (.here .nil)) rfl)<|Qg rfl (fun w F hF h9=>G6 hF (h9.1.2.1) (h9.2.1) (by omega) (by omega)) (fun c50=>QM (QL (vs:=[_,_]) rfl JP (.there (.there .here)) (.here (.here .nil)) rfl)<|QM (QL (vs:=[_,_]) rfl JP .here (.here (.here .nil)) rfl)<|Qg rfl (fun w F hF h9=>G6 hF (h9.1.1.2.2) (h9.1.2.2) (by omega) (by omega)) (fun c53=>Qg rfl (fun w F hF h9=>D2 hF (h9.1.2) (h9.2) (e5) (by omega) (by omega)) (fun _=>QM (QF rfl)<|Q9<|QC<|QS ?_)))
   exact F_r1 rfl rfl (by rw [GA]) (fun F h9=>trivial)
 ·
  refine QN rfl rfl rfl<|QA (Qh rfl rfl rfl)<|JS_nt<|YF rfl<|QO<|QC<|QG ?_
  have s1:=Ji x
  have s2:=Jd x
  have s3:=Ji y
  have s4:=Jd y
  have m1:=Vo x.num y.den
  have m2:=Vo y.num x.den
  have m3:=Vo (x.den:Int) y.den
  have m4:=Vo x.num y.num
  have m5:=Uk (x.num*y.den) (y.num*x.den)
  have e5:(x.den:Int)*y.den≠0:=Int.mul_ne_zero (Yr x) (Yr y)
  refine QB<|JS_mv rfl<|QH rfl (fun w F hF h9=>BO hF (hx)) (fun c40=>JS_mv rfl<|QA (QK rfl rfl)<|QA (QK rfl rfl)<|Qf Yj (fun b11=>Qf Yj (fun b12=>QQ (vs:=[_,_]) rfl rfl rfl JP rfl (.there .here) (.here (.here .nil)) ⟨rfl,rfl,trivial⟩<|QQ (vs:=[_,_]) rfl rfl rfl JP rfl .here (.here (.here .nil)) ⟨rfl,rfl,trivial⟩<|JS_nt<|J_sr<|JS_mv rfl<|QH rfl (fun w F hF h9=>BO hF (hy)) (fun c45=>JS_mv rfl<|QA (QK rfl rfl)<|QA (QK rfl rfl)<|Qf Yj (fun b13=>Qf Yj (fun b14=>QQ (vs:=[_,_]) rfl rfl rfl JP rfl (.there .here) (.here (.here .nil)) ⟨rfl,rfl,trivial⟩<|QQ (vs:=[_,_]) rfl rfl rfl JP rfl .here (.here (.here .nil)) ⟨rfl,rfl,trivial⟩<|QE<|QC ?_))))))
  refine QG<|JR subl_r mixed (by kernel_rfl)<|QM (QL (vs:=[_,_]) rfl JP (.there (.there (.there .here))) (.here (.here .nil)) rfl)<|QM (QL (vs:=[_,_]) rfl JP (.there .here) (.here (.here .nil)) rfl)<|Qg rfl (fun w F hF h9=>G6 hF (h9.1.2.1) (h9.2.1) (by omega) (by omega)) (fun c50=>QM (QL (vs:=[_,_]) rfl JP (.there (.there .here)) (.here (.here .nil)) rfl)<|QM (QL (vs:=[_,_]) rfl JP .here (.here (.here .nil)) rfl)<|Qg rfl (fun w F hF h9=>G6 hF (h9.1.1.2.2) (h9.1.2.2) (by omega) (by omega)) (fun c53=>Qg rfl (fun w F hF h9=>D2 hF (h9.1.2) (h9.2) (e5) (by omega) (by omega)) (fun _=>QM (QF rfl)<|Q9<|QC<|QS ?_)))
  exact F_r1 rfl rfl (by rw [GA]) (fun F h9=>trivial)
theorem uE {w:World} {F:Gs} {x y:Rat} (hF:Fits F w) (hx:JO x≤100000) (hy:JO y≤100000):Qc Tryz.prog 32 [tx (Jg x),tx (Jg y)] w F (tx (Jg (x - y))):=by
 have hly:=Gd y
 refine QT.intro (G:=fun F=>True) Tryz.func32 rfl (by rfl) rfl rfl hF (fun F' hF'=>trivial)<|J_sr<|JS_as rfl<|JS_nt<|J_sr<|JS_mv rfl<|JS_mv rfl<|QH rfl (fun w F hF hT=>uI hF (by omega)) (fun _=>?_)
 rw [yz]
 refine QH rfl (fun w F hF h9=>vQ hF (hx) (by rw [Eo];exact hy)) (fun _=>JS_as rfl<|JS_nt<|QS ?_)
 exact F_r1 rfl rfl (by rw [Rat.sub_eq_add_neg]) (fun F h9=>trivial)
theorem Xfr {w:World} {F:Gs} {x:Rat} (hF:Fits F w) (h0:x.num≠0) (hx:JO x≤100000):Qc Tryz.prog 127 [tx (Jg x)] w F (tx (Jg x⁻¹)):=by
 have s1:=Ji x
 have s2:=Jd x
 refine QT.intro (G:=fun F=>True) Tryz.func127 rfl (by rfl) rfl rfl hF (fun F' hF'=>trivial)<|J_sr<|JS_as rfl<|JS_nt<|J_sr<|JS_mv rfl<|QH rfl (fun w F hF hT=>BO hF (hx)) (fun c7=>JS_mv rfl<|QA (QK rfl rfl)<|QA (QK rfl rfl)<|Qf Yj (fun b3=>Qf Yj (fun b4=>QQ (vs:=[_,_]) rfl rfl rfl JP rfl (.there .here) (.here (.here .nil)) ⟨rfl,rfl,trivial⟩<|QQ (vs:=[_,_]) rfl rfl rfl JP rfl .here (.here (.here .nil)) ⟨rfl,rfl,trivial⟩<|JS_nt<|J_sr<|QA (QL (vs:=[_,_]) rfl JP .here (.here (.here .nil)) rfl)<|QA (QL (vs:=[_,_]) rfl JP (.there .here) (.here (.here .nil)) rfl)<|QH rfl (fun w F hF h9=>D2 hF (h9.2.2) (h9.2.1) (h0) (by omega) (by omega)) (fun _=>JS_as rfl ?_))))
 refine JS_nt<|QS ?_
 exact F_r1 rfl rfl (by rw [inv_divInt h0]) (fun F h9=>trivial)
theorem Xfs {w:World} {F:Gs} {x y:Rat} (hF:Fits F w) (h0:y.num≠0) (hx:JO x≤100000) (hy:JO y≤100000):Qc Tryz.prog 37 [tx (Jg x),tx (Jg y)] w F (tx (Jg (x / y))):=by
 refine QT.intro (G:=fun F=>True) Tryz.func37 rfl (by rfl) rfl rfl hF (fun F' hF'=>trivial)<|J_sr<|JS_as rfl<|JS_nt<|J_sr<|JS_mv rfl<|JS_mv rfl<|QH rfl (fun w F hF hT=>Xfr hF (h0) (hy)) (fun _=>QH rfl (fun w F hF h9=>uJ hF (hx) (by have:=Cx h0;omega)) (fun _=>JS_as rfl<|JS_nt<|QS ?_))
 exact F_r1 rfl rfl (by rw [Rat.div_def]) (fun F h9=>trivial)
theorem uM {w:World} {F:Gs} {x y:Rat} (hF:Fits F w) (hx:JO x≤30000) (hy:JO y≤30000):Qc Tryz.prog 30 [tx (Jg x),tx (Jg y)] w F (.int .i64 (DY x y)):=by
 refine QT.intro (G:=fun F=>True) Tryz.func30 rfl (by rfl) rfl rfl hF (fun F' hF'=>trivial)<|J_sr<|JS_as rfl<|JS_nt<|J_sr<|JS_mv rfl<|JS_mv rfl<|QH rfl (fun w F hF hT=>uE hF (by omega) (by omega)) (fun _=>QH rfl (fun w F hF h9=>LG hF ) (fun _=>JS_as rfl<|JS_nt<|QS ?_))
 exact F_r1 rfl rfl (by rw [jt,pP]) (fun F h9=>trivial)
theorem Xf3 {w:World} {F:Gs} {x:Rat} (hF:Fits F w) (hx:JO x≤100000):Qc Tryz.prog 91 [tx (Jg x)] w F (tx (Jg ((x.floor:Int):Rat))):=by
 have hl:=Gd x
 have s1:=Ji x
 have s2:=Jd x
 have s3:=Mo x
 refine QT.intro (G:=fun F=>True) Tryz.func91 rfl (by rfl) rfl rfl hF (fun F' hF'=>trivial)<|J_sr<|JS_as rfl<|JS_nt<|QG<|J_sr<|JS_mv rfl<|QH rfl (fun w F hF hT=>Xfq hF (by omega)) (fun _=>QE<|QC ?_)
 refine QP rfl (fun hc=>?_) (fun hc=>?_)
 ·
  have hd:x.den=1:=(RS x).1 (by simpa using hc)
  refine J_sr<|JS_mv rfl<|JS_as rfl<|JS_nt<|QS ?_
  exact F_r1 rfl rfl (by rw [pH,Xfn hd,(RR hd).1]) (fun F h9=>trivial)
 ·
  refine QO<|QC<|J_sr<|JS_mv rfl<|QH rfl (fun w F hF h9=>BO hF (hx)) (fun c10=>JS_mv rfl<|QA (QK rfl rfl)<|QA (QK rfl rfl)<|Qf Yj (fun b3=>Qf Yj (fun b4=>QQ (vs:=[_,_]) rfl rfl rfl JP rfl (.there .here) (.here (.here .nil)) ⟨rfl,rfl,trivial⟩<|QQ (vs:=[_,_]) rfl rfl rfl JP rfl .here (.here (.here .nil)) ⟨rfl,rfl,trivial⟩<|JS_nt<|J_sr<|QA (QL (vs:=[_,_]) rfl JP (.there .here) (.here (.here .nil)) rfl)<|QA (QL (vs:=[_,_]) rfl JP .here (.here (.here .nil)) rfl)<|QH rfl (fun w F hF h9=>jz hF (h9.2.1) (h9.2.2) (by have:=den_pos x;omega) (by omega) (by omega)) (fun c15=>QH rfl (fun w F hF h9=>C3 hF (h9.2) (by rw [Xer];omega)) (fun _=>JS_as rfl<|JS_nt<|QS ?_)))))
  exact F_r1 rfl rfl (by rw [pH,Xer]) (fun F h9=>trivial)
end
section
open Go.RowKit Ig
theorem kD {w:World} {F:Gs} {s:List UInt8} (hF:Fits F w) (hl:s.length≤1000000) (h1:XH (Lib.trimPrefix (s.take (ahead XY s)) [45])=true) (h2:ahead XY s<s.length→XH (Lib.trimPrefix (s.drop (ahead XY s+1)) [45])=true):QT Tryz.prog 119 [tx s] w F Ri.v2 (fun c F=>VZ F c.1 (Zz (s.take (ahead XY s)))∧(ahead XY s<s.length→VZ F c.2 (Zz (s.drop (ahead XY s+1))))):=by
 have hah:=Bz XY s
 refine QT.intro (G:=fun F=>True) Tryz.func119 rfl (by rfl) rfl rfl hF (fun F' hF'=>trivial)<|J_sr<|Qf Yj (fun b2=>Qf Yj (fun b3=>JS_nt<|J_sr<|JS_mv rfl<|JS_as rfl<|JS_nt<|J_sr<|JS_mv rfl<|QH rfl (fun w F hF hT=>D0 hF (by omega)) (fun _=>JS_as rfl<|JS_nt<|QG<|J_sr<|JS_mv rfl<|JS_mv rfl ?_)))
 refine QA (XA rfl Xn)<|QA (QU rfl rfl rfl)<|QE<|QC ?_
 refine QP rfl (fun hc=>?_) (fun hc=>?_)
 ·
  have hd:ahead XY s=s.length:=by have:(ahead XY s:Int)=(s.length:Int):=(by simpa using hc);omega
  refine J_sr<|JS_mv rfl<|QH rfl (fun w F hF h9=>G7 hF (by rw [hd,List.take_length] at h1;exact h1) (by omega)) (fun c14=>QH rfl (fun w F hF h9=>MW hF (by decide)) (fun c15=>QQ (vs:=[_,_]) rfl rfl rfl JP rfl (.there .here) (.here (.here .nil)) ⟨rfl,rfl,trivial⟩<|QQ (vs:=[_,_]) rfl rfl rfl JP rfl .here (.here (.here .nil)) ⟨rfl,rfl,trivial⟩<|JS_nt<|QS ?_))
  exact JX ((c14,c15):Ri×Ri) rfl (.Jc (c:=[_,_]) rfl JP (.there .here) (.Jc (c:=[_,_]) rfl JP .here .nil)) (rfl) (fun F h9=>⟨by rw [hd,List.take_length];exact h9.1.2,fun g=>by omega⟩)
 ·
  have hd:ahead XY s<s.length:=by rcases Nat.lt_or_ge (ahead XY s) s.length with g | g;exact g;exact absurd (show ahead XY s=s.length by omega) (fun e=>by rw [e] at hc;simp at hc)
  refine QO<|QC<|QG<|JR (.cons _ (.cons _ .slnil)) mixed (by kernel_rfl)<|QM (QD rfl)<|QM (QD rfl)<|QM (Ha (ahead XY s) rfl rfl Xn rfl (by omega))<|Qg rfl (fun w F hF h9=>G7 hF (h1) (by rw [List.length_take];omega)) (fun c19=>QM (QD rfl)<|QM (QD rfl)<|QM (Qp rfl rfl (by omega))<|QM (Kr ((ahead XY s+1)) rfl rfl Xn (congrArg (fun z:Int=>some (Value.int .i64 z)) (by omega)) (by omega))<|Qg rfl (fun w F hF h9=>G7 hF (h2 hd) (by rw [List.length_drop];omega)) (fun c24=>Jh (vs:=[_,_]) rfl rfl rfl JP rfl (.there .here) (.cons _ .slnil) (fun _ h=>h.1.1) (.here (.here .nil)) ⟨rfl,rfl,trivial⟩<|Jh (vs:=[_,_]) rfl rfl rfl JP rfl .here (.cons _ .slnil) (fun _ h=>h.1.1) (.here (.here .nil)) ⟨rfl,rfl,trivial⟩<|Q9<|QC<|QS ?_))
  exact JX ((c19,c24):Ri×Ri) rfl (.Jc (c:=[_,_]) rfl JP (.there .here) (.Jc (c:=[_,_]) rfl JP .here .nil)) (rfl) (fun F h9=>⟨h9.1.2,fun _=>h9.2⟩)
theorem LS {l:List UInt8} (h:(!XU l)=false):0<l.length:=by
 rcases Nat.eq_zero_or_pos l.length with g | g
 ·rw [List.eq_nil_of_length_eq_zero g] at h;simp [XU] at h
 ·exact g
theorem dN {p:UInt8→Bool} {s:List UInt8} (h:∀ c∈s,p c=true):s.takeWhile p=s:=by
 induction s with
 |nil=>rfl
 |cons c r ih=>rw [List.takeWhile_cons_of_pos (h c (by simp)),ih (fun d hd=>h d (by simp [hd]))]
theorem yf {l:List UInt8} (h:XH l=true):sz (JB l:Int)≤4*l.length:=by
 rw [Xv]
 have h1:=Vv h
 have h2:10^l.length≤2^(4*l.length):=by rw [Nat.pow_mul];exact Nat.pow_le_pow_left (by decide) _
 simp;omega
theorem kW (s:List UInt8):(ZS 47 s).1=s.take (ahead XY s)∧(ZS 47 s).2.1=s.drop (ahead XY s+1)∧(ZS 47 s).2.2=decide (ahead XY s<s.length):=by
 have hf:(fun c:UInt8=>!XY c)=fun c=>c != 47:=by funext c;simp [XY,bne]
 have h1:=K7 (fun c:UInt8=>c != 47) s
 have ha:ahead XY s=(s.takeWhile (fun c=>c != 47)).length:=by unfold ahead;rw [hf]
 rw [ha]
 by_cases hc:s.contains 47=true
 ·have e:ZS 47 s=(s.takeWhile (· != 47),(s.dropWhile (· != 47)).drop 1,true):=by unfold ZS;rw [if_pos hc]
  rw [e]
  obtain ⟨r,hr⟩:=Dq (show(47:UInt8)∈s by simpa using hc)
  have hd:=h1.2
  rw [hr] at hd
  refine⟨h1.1.symm,?_,?_⟩
  ·show(s.dropWhile (· != 47)).drop 1=_
   rw [hr,← List.drop_drop,hd]
  ·have:(s.takeWhile (fun c=>c != 47)).length<s.length:=by
    have:=congrArg List.length hd
    rw [List.length_drop,List.length_cons] at this;omega
   simp [this]
 ·have e:ZS 47 s=(s,[],false):=by unfold ZS;rw [if_neg hc]
  rw [e]
  have h2:s.takeWhile (fun c=>c != 47)=s:=by
   refine dN fun c hm=>?_
   have:c≠47:=by rintro rfl;exact hc (by simpa using hm)
   simpa using this
  rw [h2]
  simp
theorem kz (s:List UInt8):Lib.trimPrefix (ZS 47 s).1 [45]=(ZS 47 (Lib.trimPrefix s [45])).1∧Lib.hasPrefix (ZS 47 s).1 [45]=Lib.hasPrefix s [45]∧(ZS 47 s).2=(ZS 47 (Lib.trimPrefix s [45])).2:=by
 cases s with
 |nil=>exact⟨rfl,rfl,rfl⟩
 |cons c r =>
  by_cases hc:c=45
  ·subst hc
   have e:Lib.trimPrefix (45::r) [45]=r:=rfl
   rw [e]
   unfold ZS
   have h0:((45:UInt8)::r).contains 47=r.contains 47:=by simp
   rw [h0]
   split
   ·exact⟨rfl,rfl,rfl⟩
   ·exact⟨rfl,rfl,rfl⟩
  ·have hp:Lib.hasPrefix (c::r) [45]=false:=by
    rw [W6 (by simp)];simpa using hc
   have e:Lib.trimPrefix (c::r) [45]=c::r:=by unfold Lib.trimPrefix;rw [if_neg (by rw [hp];decide)]
   rw [e]
   have e2:∀ l:List UInt8,Lib.hasPrefix l [45]=false→Lib.trimPrefix l [45]=l:=fun l h=>by unfold Lib.trimPrefix;rw [if_neg (by rw [h];decide)]
   have h3:Lib.hasPrefix (ZS 47 (c::r)).1 [45]=false:=by
    unfold ZS
    split
    ·by_cases h47:c=47
     ·subst h47;rfl
     ·rw [List.takeWhile_cons_of_pos (by simpa using h47),W6 (by simp)];simpa using hc
    ·exact hp
   exact⟨e2 _ h3,by rw [h3,hp],rfl⟩
theorem pR {s:List UInt8} (h1:LB s=false) (h2:Ip s=false) (hk:ahead XY (Lib.trimPrefix s [45])<(Lib.trimPrefix s [45]).length):XH ((Lib.trimPrefix s [45]).take (ahead XY (Lib.trimPrefix s [45])))=true∧XH (E5 s)=true:=by
 have hs:PU s=true:=by simp [PU];exact hk
 simp only [LB,Bool.or_eq_false_iff,Bool.not_eq_false'] at h1
 simp only [Ip,hs,Bool.true_and,Bool.or_eq_false_iff,Bool.not_eq_false'] at h2
 exact⟨VE h1.1,VE h2.1⟩
theorem kU (s:List UInt8):SK s=Ja s:=by
 obtain ⟨t1,t2,t3⟩:=kz s
 obtain ⟨c1,c2,c3⟩:=kW (Lib.trimPrefix s [45])
 have t4:(ZS 47 s).2.1=E5 s:=by rw [t3,c2];rfl
 have t5:(ZS 47 s).2.2=PU s:=by rw [t3,c3];rfl
 have hlen:(Lib.trimPrefix s [45]).take (ahead XY (Lib.trimPrefix s [45]))=(Lib.trimPrefix s [45]).take (ahead XY (Lib.trimPrefix s [45])):=rfl
 have hk:((Lib.trimPrefix s [45]).take (ahead XY (Lib.trimPrefix s [45]))).length=ahead XY (Lib.trimPrefix s [45]):=by
  rw [List.length_take];have:=Bz XY (Lib.trimPrefix s [45]);omega
 unfold Ja Wk SK UW LB Ip LA Ot
 rw [t1,t2,t4,t5,c1,hk]
 generalize (Lib.trimPrefix s [45]).take (ahead XY (Lib.trimPrefix s [45]))=a
 generalize E5 s=d
 generalize PU s=f
 generalize Lib.hasPrefix s [45]=n
 have e:(!XU a||(n&&a==[48])||(f&&(!XU d||d==[48]||d==[49])))=((!XU a||(n&&a==[48]))||(f&&(!XU d||(d==[48]||d==[49])))):=by rw [Bool.or_assoc (!XU d)]
 rw [e]
 cases (!XU a||(n&&a==[48]))<;>cases (f&&(!XU d||(d==[48]||d==[49])))<;>rfl
theorem Cc {w:World} {F:Gs} {s:List UInt8} (hF:Fits F w) (hl:s.length≤9223372036854775807):Qc Tryz.prog 20 [tx s] w F (.int .i64 (Ja s)):=by
 rw [← kU]
 have hln:(Lib.trimPrefix s [45]).length≤s.length:=Dv _ _
 have hah:=Bz XY (Lib.trimPrefix s [45])
 refine QT.intro (G:=fun F=>True) Tryz.func20 rfl (by rfl) rfl rfl hF (fun F' hF'=>trivial)<|J_sr<|JS_as rfl<|JS_nt<|J_sr<|JS_mv rfl<|JS_as rfl<|QE<|QC ?_
 refine K5 [(0,_)] [(3,tx (Lib.trimPrefix s [45]))] ⟨rfl,trivial⟩ ?_ ?_
 ·
  refine K5 [(0,_),(3,_)] [(16,.bool (Lib.hasPrefix s [45]))] ⟨rfl,rfl,trivial⟩ ?_ ?_
  ·
   refine QB<|JS_mv rfl<|QA (XA rfl Xn)<|QA (QU rfl rfl rfl)<|JS_mv rfl ?_
   refine Qn (t:=12) rfl (fun hb12=>?_) (fun hb12=>?_)
   ·
    refine QJ rfl rfl<|JS_mv rfl<|QJ rfl rfl<|QA (Vw (i:=0) rfl rfl Xn (by have:=dec_t hb12;omega))<|QJ rfl rfl<|QA (QU rfl rfl rfl)<|QA (Qj rfl rfl rfl)<|QE ?_
    exact ZB ⟨rfl,rfl,(congrArg (fun b=>some (Value.bool b)) (by have h0:0<s.length:=(by have:=dec_t hb12;omega);rw [W6 h0];exact Em rfl)),trivial⟩ subl_r (fun _ h=>h)
   ·
    refine QN rfl rfl rfl<|QN rfl rfl rfl<|QN rfl rfl rfl<|QA (Qh rfl rfl rfl)<|QE ?_
    exact ZB ⟨rfl,rfl,(congrArg (fun b=>some (Value.bool b)) (by have h0:s.length=0:=(by have:=dec_f hb12;omega);rw [List.eq_nil_of_length_eq_zero h0];rfl)),trivial⟩ subl_r (fun _ h=>h)
  ·
   simp only [List.cons_append,List.nil_append]
   refine QP rfl (fun hc=>?_) (fun hc=>?_)
   ·
    refine QB<|JS_mv rfl<|QA (Kr (1) rfl rfl Xn rfl (M3 hc))<|JS_as rfl<|QE ?_
    exact ZB ⟨rfl,(congrArg (fun l=>some (tx l)) (by unfold Lib.trimPrefix;rw [if_pos hc];rfl)),trivial⟩ subl_r (fun _ h=>h)
   ·
    refine QO ?_
    exact ZB ⟨rfl,(congrArg (fun l=>some (tx l)) (by unfold Lib.trimPrefix;rw [hc];rfl)),trivial⟩ subl_r (fun _ h=>h)
 ·
  simp only [List.cons_append,List.nil_append]
  refine J_sr<|JS_mv rfl<|QH rfl (fun w F hF hT=>D0 hF (by omega)) (fun _=>JS_as rfl<|JS_nt<|QG ?_)
  refine K5 [(3,_),(4,_)] [(36,.bool (LB s))] ⟨rfl,rfl,trivial⟩ ?_ ?_
  ·
   refine QB<|JS_mv rfl<|JS_mv rfl<|QA (Ha ((ahead XY (Lib.trimPrefix s [45]))) rfl rfl Xn rfl (by omega))<|QH rfl (fun w F hF h9=>yi hF (by rw [List.length_take];omega)) (fun _=>QA (Z0 rfl)<|JS_mv rfl ?_)
   refine Qn (t:=26) rfl (fun hb26=>?_) (fun hb26=>?_)
   ·
    refine QN rfl rfl rfl<|QN rfl rfl rfl<|QN rfl rfl rfl<|QN rfl rfl rfl<|JU rfl rfl<|JU rfl rfl<|JU rfl rfl<|JU rfl rfl<|QN rfl rfl rfl<|QA (Qj rfl rfl rfl)<|QE ?_
    exact ZB ⟨rfl,rfl,(congrArg (fun b=>some (Value.bool b)) (by simp [LB] at hb26 ⊢;simp [hb26])),trivial⟩ subl_r (fun _ h=>h.1)
   ·
    refine QJ rfl rfl<|JS_mv rfl<|QJ rfl rfl<|QA (Vw (i:=0) rfl rfl En (by have h1:=LS hb26;rw [List.length_take] at h1;omega))<|QJ rfl rfl<|QA (QU rfl rfl rfl)<|QJ rfl rfl<|JS_mv rfl ?_
    refine Qn (t:=30) rfl (fun hb30=>?_) (fun hb30=>?_)
    ·
     refine QJ rfl rfl<|JS_mv rfl<|QJ rfl rfl<|JS_mv rfl<|QJ rfl rfl<|QA (Ha ((ahead XY (Lib.trimPrefix s [45]))) rfl rfl Xn rfl (by omega))<|QJ rfl rfl<|QA (KY rfl rfl)<|QJ rfl rfl<|QA (Qj rfl rfl rfl)<|QA (Qh rfl rfl rfl)<|QE ?_
     exact ZB ⟨rfl,rfl,(congrArg (fun b=>some (Value.bool b)) (by have h0:0<s.length:=(by have h1:=LS hb26;rw [List.length_take] at h1;omega);have hp:Lib.hasPrefix s [45]=true:=(by rw [W6 h0,← Em (z:=45) rfl];exact hb30);simp [LB] at hb26 ⊢;simp [hb26,hp])),trivial⟩ subl_r (fun _ h=>h.1)
    ·
     refine QN rfl rfl rfl<|QN rfl rfl rfl<|QN rfl rfl rfl<|QN rfl rfl rfl<|QJ rfl rfl<|QA (Qh rfl rfl rfl)<|QA (Qh rfl rfl rfl)<|QE ?_
     exact ZB ⟨rfl,rfl,(congrArg (fun b=>some (Value.bool b)) (by have h0:0<s.length:=(by have h1:=LS hb26;rw [List.length_take] at h1;omega);have hp:Lib.hasPrefix s [45]=false:=(by rw [W6 h0,← Em (z:=45) rfl];exact hb30);simp [LB] at hb26 ⊢;simp [hb26,hp])),trivial⟩ subl_r (fun _ h=>h.1)
  ·
   simp only [List.cons_append,List.nil_append]
   refine QP rfl (fun hc=>?_) (fun hc=>?_)
   ·
    have hb1:LB s=true:=hc
    refine J_sr<|JS_as rfl<|JS_nt<|QS ?_
    exact F_r1 rfl rfl (congrArg (Value.int .i64) (by simp [SK,hb1])) (fun F h9=>trivial)
   ·
    have hb1:LB s=false:=hc
    refine QO<|QC<|QG ?_
    refine K5 [(3,_),(4,_)] [(62,.bool (Ip s))] ⟨rfl,rfl,trivial⟩ ?_ ?_
    ·
     refine QB<|JS_mv rfl<|JS_mv rfl<|QA (XA rfl Xn)<|QA (QU rfl rfl rfl)<|JS_mv rfl ?_
     refine Qn (t:=41) rfl (fun hb41=>?_) (fun hb41=>?_)
     ·
      refine QJ rfl rfl<|JS_mv rfl<|QJ rfl rfl<|JS_mv rfl<|QJ rfl rfl<|QA (Qp rfl rfl (by first | omega | (simp only [decide_eq_true_eq] at *;omega)))<|QJ rfl rfl<|QA (Kr (((ahead XY (Lib.trimPrefix s [45]))+1)) rfl rfl Xn (congrArg (fun z:Int=>some (Value.int .i64 z)) (by omega)) (by have:=dec_t hb41;omega))<|QJ rfl rfl<|QH rfl (fun w F hF h9=>yi hF (by rw [List.length_drop];omega)) (fun _=>QJ rfl rfl<|QA (Z0 rfl)<|QJ rfl rfl<|JS_mv rfl ?_)
      refine Qn (t:=48) rfl (fun hb48=>?_) (fun hb48=>?_)
      ·
       refine QN rfl rfl rfl<|QN rfl rfl rfl<|QN rfl rfl rfl<|QN rfl rfl rfl<|QN rfl rfl rfl<|QJ rfl rfl<|QA (Qj rfl rfl rfl)<|QJ rfl rfl<|JS_mv rfl<|QN rfl rfl rfl<|QN rfl rfl rfl<|QN rfl rfl rfl<|QN rfl rfl rfl<|QN rfl rfl rfl<|QJ rfl rfl<|QA (Qj rfl rfl rfl)<|QA (Qj rfl rfl rfl)<|QE ?_
       exact ZB ⟨rfl,rfl,(congrArg (fun b=>some (Value.bool b)) (by have h1:PU s=true:=(by simp [PU];simpa using hb41);simp [Ip,h1];simp at hb48;exact .inl hb48)),trivial⟩ subl_r (fun _ h=>h.1)
      ·
       refine QJ rfl rfl<|JS_mv rfl<|QJ rfl rfl<|JS_mv rfl<|QJ rfl rfl<|QA (Qp rfl rfl (by first | omega | (simp only [decide_eq_true_eq] at *;omega)))<|QJ rfl rfl<|QA (Kr (((ahead XY (Lib.trimPrefix s [45]))+1)) rfl rfl Xn (congrArg (fun z:Int=>some (Value.int .i64 z)) (by omega)) (by have:=dec_t hb41;omega))<|QJ rfl rfl<|QA (KY rfl rfl)<|QJ rfl rfl<|QA (Qh rfl rfl rfl)<|QJ rfl rfl<|JS_mv rfl ?_
       refine Qn (t:=55) rfl (fun hb55=>?_) (fun hb55=>?_)
       ·
        refine QN rfl rfl rfl<|QN rfl rfl rfl<|QN rfl rfl rfl<|QN rfl rfl rfl<|QN rfl rfl rfl<|QJ rfl rfl<|QA (Qj rfl rfl rfl)<|QA (Qj rfl rfl rfl)<|QE ?_
        exact ZB ⟨rfl,rfl,(congrArg (fun b=>some (Value.bool b)) (by have h1:PU s=true:=(by simp [PU];simpa using hb41);simp [Ip,h1];exact .inr (.inl (by simpa [E5] using hb55)))),trivial⟩ subl_r (fun _ h=>h.1)
       ·
        refine QJ rfl rfl<|JS_mv rfl<|QJ rfl rfl<|JS_mv rfl<|QJ rfl rfl<|QA (Qp rfl rfl (by first | omega | (simp only [decide_eq_true_eq] at *;omega)))<|QJ rfl rfl<|QA (Kr (((ahead XY (Lib.trimPrefix s [45]))+1)) rfl rfl Xn (congrArg (fun z:Int=>some (Value.int .i64 z)) (by omega)) (by have:=dec_t hb41;omega))<|QJ rfl rfl<|QA (KY rfl rfl)<|QJ rfl rfl<|QA (Qh rfl rfl rfl)<|QA (Qj rfl rfl rfl)<|QE ?_
        exact ZB ⟨rfl,rfl,(congrArg (fun b=>some (Value.bool b)) (by have h1:PU s=true:=(by simp [PU];simpa using hb41);simp at hb48 hb55;simp [Ip,h1,E5,hb48,hb55])),trivial⟩ subl_r (fun _ h=>h.1)
     ·
      refine QN rfl rfl rfl<|QN rfl rfl rfl<|QN rfl rfl rfl<|QN rfl rfl rfl<|QN rfl rfl rfl<|QN rfl rfl rfl<|QN rfl rfl rfl<|JU rfl rfl<|JU rfl rfl<|JU rfl rfl<|JU rfl rfl<|JU rfl rfl<|QN rfl rfl rfl<|QN rfl rfl rfl<|JU rfl rfl<|JU rfl rfl<|JU rfl rfl<|JU rfl rfl<|JU rfl rfl<|QN rfl rfl rfl<|QA (Qh rfl rfl rfl)<|QE ?_
      exact ZB ⟨rfl,rfl,(congrArg (fun b=>some (Value.bool b)) (by have h1:PU s=false:=(by simp [PU];simpa using hb41);simp [Ip,h1])),trivial⟩ subl_r (fun _ h=>h)
    ·
     simp only [List.cons_append,List.nil_append]
     refine QP rfl (fun hc=>?_) (fun hc=>?_)
     ·
      have hb2:Ip s=true:=hc
      refine J_sr<|JS_as rfl<|JS_nt<|QS ?_
      exact F_r1 rfl rfl (congrArg (Value.int .i64) (by simp [SK,hb1,hb2])) (fun F h9=>trivial)
     ·
      have hb2:Ip s=false:=hc
      refine QO<|QC<|QG ?_
      refine K5 [(3,_),(4,_)] [(72,.bool (LA s))] ⟨rfl,rfl,trivial⟩ ?_ ?_
      ·
       refine QB<|JS_mv rfl<|QA (QU rfl rfl rfl)<|JS_mv rfl ?_
       refine Qn (t:=65) rfl (fun hb65=>?_) (fun hb65=>?_)
       ·
        refine QN rfl rfl rfl<|QN rfl rfl rfl<|QN rfl rfl rfl<|QN rfl rfl rfl<|QN rfl rfl rfl<|QN rfl rfl rfl<|QA (Qj rfl rfl rfl)<|QE ?_
        exact ZB ⟨rfl,rfl,(congrArg (fun b=>some (Value.bool b)) (by have:=dec_t hb65;simp [LA];left;omega)),trivial⟩ subl_r (fun _ h=>h)
       ·
        refine QJ rfl rfl<|JS_mv rfl<|QJ rfl rfl<|QA (XA rfl Xn)<|QJ rfl rfl<|JS_mv rfl<|QJ rfl rfl<|QA (J7 rfl rfl (by omega))<|QJ rfl rfl<|QA (J7 rfl rfl (by omega))<|QJ rfl rfl<|QA (QU rfl rfl rfl)<|QA (Qh rfl rfl rfl)<|QE ?_
        exact ZB ⟨rfl,rfl,(congrArg (fun b=>some (Value.bool b)) (by rw [Bool.eq_iff_iff];have:=dec_f hb65;simp [LA,E5];omega)),trivial⟩ subl_r (fun _ h=>h)
      ·
       simp only [List.cons_append,List.nil_append]
       refine QP rfl (fun hc=>?_) (fun hc=>?_)
       ·
        have hb3:LA s=true:=hc
        refine J_sr<|JS_as rfl<|JS_nt<|QS ?_
        exact F_r1 rfl rfl (congrArg (Value.int .i64) (by simp [SK,hb1,hb2,hb3])) (fun F h9=>trivial)
       ·
        have hb3:LA s=false:=hc
        have hk6:ahead XY (Lib.trimPrefix s [45])≤600:=by simp [LA] at hb3;exact hb3.1
        refine QO<|QC<|QG<|J_sr<|JS_mv rfl<|JS_mv rfl<|QA (XA rfl Xn)<|QA (QU rfl rfl rfl)<|QE<|QC ?_
        refine QP rfl (fun hc=>?_) (fun hc=>?_)
        ·
         have hk:ahead XY (Lib.trimPrefix s [45])<(Lib.trimPrefix s [45]).length:=by have:=dec_t hc;omega
         obtain ⟨da,dd⟩:=pR hb1 hb2 hk
         refine J_sr<|JS_mv rfl<|QH rfl (fun w F hF h9=>kD hF (s:=(Lib.trimPrefix s [45])) (by have h6:(E5 s).length≤600:=(by simp [LA] at hb3;exact hb3.2);have h7:(E5 s).length=(Lib.trimPrefix s [45]).length - (ahead XY (Lib.trimPrefix s [45])+1):=(by unfold E5;rw [List.length_drop]);omega) (by rw [ZX da];exact da) (fun _=>by rw [show(List.drop (ahead XY (Lib.trimPrefix s [45])+1) (Lib.trimPrefix s [45]))=E5 s from rfl,ZX dd];exact dd)) (fun c79=>JS_mv rfl<|QA (QK rfl rfl)<|QA (QK rfl rfl)<|Qf Yj (fun b5=>Qf Yj (fun b6=>QQ (vs:=[_,_]) rfl rfl rfl JP rfl (.there .here) (.here (.here .nil)) ⟨rfl,rfl,trivial⟩<|QQ (vs:=[_,_]) rfl rfl rfl JP rfl .here (.here (.here .nil)) ⟨rfl,rfl,trivial⟩<|JS_nt<|QG<|X3 _ (fun w F hF h=>And.intro h.2.1.p (And.intro (h.2.2 hk).p (And.intro h.2.1.1.2.1 (h.2.2 hk).1.2.1))) (fun pp=>?_))))
         obtain ⟨pa,pd,na,nd⟩:=pp
         rw [XK da] at pa
         have pd2:=pd
         rw [show Zz ((Lib.trimPrefix s [45]).drop (ahead XY (Lib.trimPrefix s [45])+1))=JB (E5 s) from XK dd] at pd2
         have la:=pa.len
         have ld:=pd2.len
         have sa:=yf da
         have sd:=yf dd
         have h600:(E5 s).length≤600:=by simp [LA] at hb3;exact hb3.2
         rw [List.length_take] at sa
         refine QB<|QA (QI rfl Z6 Qv)<|QA (Qo rfl Qv (.there .here) (.skip (.here .nil)))<|QA (QI rfl Z6 Qv)<|QA (Qo rfl Qv .here (.skip (.here .nil))) ?_
         refine QH rfl (fun w F hF h9=>Cb hF (a:=c79.1.l) (b:=c79.2.l) (ra:=c79.1.r) (rb:=c79.2.r) h9.2.1.1 ((h9.2.2 hk).1) (pa.dg) (pd.dg) (pa.nz) (pd.nz) (by omega) (by omega)) (fun c86=>?_);rcases c86 with ⟨v86,l86⟩;dsimp only
         refine JH _ (fun w F hF ⟨⟨⟨hT,_⟩,h79⟩,⟨h86,h86p⟩⟩=>And.intro h86.2 h86p) (fun p86=>JS_as rfl<|QE<|QC ?_)
         refine K5 [] [(95,.bool (Ot s))] trivial ?_ ?_
         ·
          have hgc:dv B9 l86=(Nat.gcd (JB ((Lib.trimPrefix s [45]).take (ahead XY (Lib.trimPrefix s [45])))) (JB (E5 s)):Nat):=by
           rw [p86.2.2.2,xQ pa pd2];rfl
          have hone:=OR p86.2.1 p86.2.2.1
          have hsl:PU s=true:=by simp [PU];exact hk
          refine QB<|JS_mv rfl<|QA (Qi rfl Qd)<|QA (QU rfl rfl rfl)<|JS_mv rfl ?_
          refine Qn (t:=90) rfl (fun hb90=>?_) (fun hb90=>?_)
          ·
           refine QN rfl rfl rfl<|QN rfl rfl rfl<|QN rfl rfl rfl<|QN rfl rfl rfl<|QA (Qj rfl rfl rfl)<|QE ?_
           exact ZB ⟨(congrArg (fun b=>some (Value.bool b)) (by have h1:¬ l86.length=1:=(by simp at hb90;omega);rw [Bool.eq_iff_iff];simp [Ot,hsl];intro g;exact h1 (hone.2 (by rw [hgc,g];rfl)).1)),trivial⟩ subl_r (fun _ h=>h)
          ·
           have hn1:v86.n=1:=by simp at hb90;omega
           refine QJ rfl rfl<|JS_mv rfl<|QJ rfl rfl<|QA (JK (n:=v86.n) (0) (fun F h9=>(h9.2.1).1) rfl (congrArg (fun z:Int=>some (Value.int .i64 z)) (by omega)) Qd Qs (by omega))<|QJ rfl rfl<|QA (JM (n:=v86.n) ((0)*1) (fun F h9=>(h9.2.1).1) (by omega) rfl Qs (JJ (o:=l86) (by omega)))<|QJ rfl rfl<|QA (QU rfl rfl rfl)<|QA (Qh rfl rfl rfl)<|QE ?_
           exact ZB ⟨(congrArg (fun b=>some (Value.bool b)) (by have h1:l86.length=1:=(by omega);rw [Bool.eq_iff_iff];simp [Ot,hsl];exact not_congr ⟨fun e=>by have h2:=hone.1 ⟨h1,e⟩;rw [hgc] at h2;omega,fun e=>(hone.2 (by rw [hgc,e];rfl)).2⟩)),trivial⟩ subl_r (fun _ h=>h)
         ·
          simp only [List.cons_append,List.nil_append]
          refine QP rfl (fun hc=>?_) (fun hc=>?_)
          ·
           have hg4:Ot s=true:=hc
           refine J_sr<|JS_as rfl<|JS_nt<|QS ?_
           exact F_r1 rfl rfl (congrArg (Value.int .i64) (by simp [SK,hb1,hb2,hb3,hg4])) (fun F h9=>trivial)
          ·
           have hg4:Ot s=false:=hc
           refine QO<|QC<|J_sr<|JS_as rfl<|JS_nt<|QS ?_
           exact F_r1 rfl rfl (congrArg (Value.int .i64) (by simp [SK,hb1,hb2,hb3,hg4])) (fun F h9=>trivial)
        ·
         have hg4:Ot s=false:=by have:=dec_f hc;simp [Ot,PU];intro g;omega
         refine QO<|QC<|J_sr<|JS_as rfl<|JS_nt<|QS ?_
         exact F_r1 rfl rfl (congrArg (Value.int .i64) (by simp [SK,hb1,hb2,hb3,hg4])) (fun F h9=>trivial)
theorem S7 {w:World} {F:Gs} {s:List UInt8} (hF:Fits F w) (hl:s.length≤1000000):Qc Tryz.prog 20 [tx s] w F (.int .i64 (Ja s)) :=
 Cc hF (Nat.le_trans hl (by decide))
end
section
open Go.RowKit Ig
def spC (p:List UInt8×List UInt8):List Value:=[tx p.1,tx p.2]
theorem Xde (p:List UInt8×List UInt8):(spC p).length=2:=rfl
theorem dY {w:World} {F:Gs} {a b:List UInt8} (hF:Fits F w) (ha:Ja a=0) (hb:Ja b=0):Qc Tryz.prog 30 [tx a,tx b] w F (.int .i64 (DY (Jk a) (Jk b))):=by
 have h1:=XR ha
 have h2:=XR hb
 have:=uM (x:=Jk a) (y:=Jk b) hF (by omega) (by omega)
 rw [← (ZO ha).1,← (ZO hb).1] at this;exact this
theorem j2 {w:World} {F:Gs} {q:Option Addr} {n c:Nat} {l:List (List UInt8)} (hF:Fits F w) (hR:Q4 F q n 1 (l.map tx)) (hl:l.length=n∧∀ s∈l,s.length≤1000000) (hn:n≤1000000):Qc Tryz.prog 29 [.slice q n c] w F (.int .i64 (Qm (l.map Ja))):=by
 have hln:=hl.1
 refine QT.intro (G:=fun F=>Q4 F q n 1 (l.map tx)) Tryz.func29 rfl (by rfl) rfl rfl hF (fun F' hF'=>hR.le hF')<|J_sr<|JS_as rfl<|JS_nt<|QG<|J_sr<|JS_as rfl<|JS_nt<|QX<|ZT (ι:=Y3 l Ja) [(0,_)] (fun i=>[(3,.int .i64 ((i.i:Nat):Int))]) (fun i=>l.length - i.i) (Y3.start _ _) ⟨rfl,trivial⟩ ⟨rfl,trivial⟩ (fun i=>?_)
 simp only [List.cons_append,List.nil_append]
 refine QG<|J_sr<|JS_mv rfl<|JS_mv rfl<|QA (Qi rfl Hz)<|QA (QU rfl rfl rfl)<|QE<|QC ?_
 refine QP rfl (fun hc=>?_) (fun hc=>?_)
 ·
  have hi:i.i<l.length:=by have:=dec_t hc;omega
  refine QO<|QC<|QG<|QX<|J_sr<|JS_mv rfl<|JS_mv rfl<|QA (JK (n:=n) (i.i) (fun F hR=>hR) rfl rfl Hz Jy (by omega))<|QA (JM (n:=n) ((i.i)*1) (fun F hR=>hR) (by omega) rfl Jy (DR (f:=tx) (l:=l) (by omega)))<|QH rfl (fun w F hF hR=>S7 hF (hl.2 _ (JN hi))) (fun _=>JS_as rfl<|JS_nt<|J_sr<|JS_mv rfl<|QA (QU rfl rfl rfl)<|QE<|QC ?_)
  refine QP rfl (fun hc=>?_) (fun hc=>?_)
  ·
   refine J_sr<|JS_mv rfl<|JS_as rfl<|JS_nt<|QS ?_
   repeat (first | refine JE ?_ | refine Q3 ?_)
   exact F_r1 rfl rfl (congrArg (Value.int .i64) (i.hit hi (by simpa using hc))) (fun F h9=>trivial)
  ·
   refine QO<|Qk<|QC<|QB<|JS_mv rfl<|QA (Qp rfl rfl (by omega))<|JS_as rfl<|QE ?_
   exact Ql (i.next hi (by simpa using hc)) (by show l.length - (i.i+1)<l.length - i.i;omega) ⟨rfl,rfl,trivial⟩ subl_r (fun F h=>h.1)
 ·
  have hi:l.length≤i.i:=by have:=dec_f hc;omega
  refine Qy ?_
  repeat (first | refine QZ ?_ | refine QV (by rfl) ?_)
  refine Qa<|QC<|J_sr<|JS_as rfl<|JS_nt<|QS ?_
  exact F_r1 rfl rfl (congrArg (Value.int .i64) (i.stop hi)) (fun F hR=>trivial)
theorem dZ {w:World} {F:Gs} {lo hi:List UInt8} (hF:Fits F w) (hl:lo.length≤1000000∧hi.length≤1000000):Qc Tryz.prog 21 [.agg #[tx lo,tx hi]] w F (.int .i64 (XD lo hi)):=by
 refine QT.intro (G:=fun F=>True) Tryz.func21 rfl (by rfl) rfl rfl hF (fun F' hF'=>trivial)<|J_sr<|Q5 rfl (vs:=[_,_]) rfl (fun b1=>JS_as rfl<|JS_nt<|J_sr<|QA (QI rfl Eb Jy)<|QA (Qo rfl Jy .here (.here .nil))<|QH rfl (fun w F hF hT=>S7 hF (hl.1)) (fun _=>JS_as rfl<|QE<|QC ?_))
 refine K5 [(1,_)] [(3,.int .i64 (Qm [Ja lo,Ja hi]))] ⟨rfl,trivial⟩ ?_ ?_
 ·
  refine J_sr<|JS_mv rfl<|QA (QU rfl rfl rfl)<|QE<|QC ?_
  refine QP rfl (fun hc=>?_) (fun hc=>?_)
  ·
   refine QB<|QA (QI rfl Ea Jy)<|QA (Qo rfl Jy .here (.skip (.here .nil)))<|QH rfl (fun w F hF h9=>S7 hF (hl.2)) (fun _=>JS_as rfl<|QE ?_)
   exact ZB ⟨rfl,(congrArg (fun z:Int=>some (Value.int .i64 z)) (by simp [Qm];simp at hc;simp [hc])),trivial⟩ subl_r (fun _ h=>h.1)
  ·
   refine QO ?_
   exact ZB ⟨rfl,(congrArg (fun z:Int=>some (Value.int .i64 z)) (by simp [Qm];simp at hc;simp [hc])),trivial⟩ subl_r (fun _ h=>h)
 ·
  simp only [List.cons_append,List.nil_append]
  refine QG<|J_sr<|JS_mv rfl<|QA (QU rfl rfl rfl)<|JS_mv rfl ?_
  refine Qn (t:=14) rfl (fun hb14=>?_) (fun hb14=>?_)
  ·
   refine QJ rfl rfl ?_
   obtain ⟨k1,k2⟩:=YS (by simpa using hb14)
   refine QA (QI rfl Eb Jy)<|QJ rfl rfl<|QA (Qo rfl Jy .here (.here .nil))<|QJ rfl rfl<|QA (QI rfl Ea Jy)<|QJ rfl rfl<|QA (Qo rfl Jy .here (.skip (.here .nil)))<|QJ rfl rfl<|QH rfl (fun w F hF h9=>dY hF (k1) (k2)) (fun _=>QJ rfl rfl<|QA (QU rfl rfl rfl)<|QA (Qj rfl rfl rfl)<|QE<|QC ?_)
   refine QP rfl (fun hc=>?_) (fun hc=>?_)
   ·
    refine J_sr<|JS_as rfl<|JS_nt<|QS ?_
    exact F_r1 rfl rfl (congrArg (Value.int .i64) (by unfold XD;rw [if_pos (by simpa using hb14),if_pos (dec_t hc)])) (fun F h9=>trivial)
   ·
    refine QO<|QC<|J_sr<|JS_mv rfl<|JS_as rfl<|JS_nt<|QS ?_
    exact F_r1 rfl rfl (congrArg (Value.int .i64) (by unfold XD;rw [if_pos (by simpa using hb14),if_neg (dec_f hc)];symm;simpa using hb14)) (fun F h9=>trivial)
  ·
   refine QN rfl rfl rfl<|QN rfl rfl rfl<|QN rfl rfl rfl<|QN rfl rfl rfl<|QN rfl rfl rfl<|QN rfl rfl rfl<|QA (Qh rfl rfl rfl)<|JS_nt<|YF rfl<|QO<|QC<|J_sr<|JS_mv rfl<|JS_as rfl<|JS_nt<|QS ?_
   exact F_r1 rfl rfl (congrArg (Value.int .i64) (by unfold XD;rw [if_neg (by simpa using hb14)])) (fun F h9=>trivial)
theorem Xdv {w:World} {F:Gs} {q:Option Addr} {n c:Nat} {l:List (List UInt8×List UInt8)} (hF:Fits F w) (hR:Q4 F q n 2 (l.flatMap spC)) (hl:l.length=n∧∀ s∈l,s.1.length≤1000000∧s.2.length≤1000000) (hn:n≤1000000):Qc Tryz.prog 56 [.slice q n c] w F (.int .i64 (Qm (l.map (fun p=>XD p.1 p.2)))):=by
 have hln:=hl.1
 refine QT.intro (G:=fun F=>Q4 F q n 2 (l.flatMap spC)) Tryz.func56 rfl (by rfl) rfl rfl hF (fun F' hF'=>hR.le hF')<|J_sr<|JS_as rfl<|JS_nt<|QG<|J_sr<|JS_as rfl<|JS_nt<|QX<|ZT (ι:=Y3 l (fun p=>XD p.1 p.2)) [(0,_)] (fun i=>[(3,.int .i64 ((i.i:Nat):Int))]) (fun i=>l.length - i.i) (Y3.start _ _) ⟨rfl,trivial⟩ ⟨rfl,trivial⟩ (fun i=>?_)
 simp only [List.cons_append,List.nil_append]
 refine QG<|J_sr<|JS_mv rfl<|JS_mv rfl<|QA (Qi rfl Sv)<|QA (QU rfl rfl rfl)<|QE<|QC ?_
 refine QP rfl (fun hc=>?_) (fun hc=>?_)
 ·
  have hi:i.i<l.length:=by have:=dec_t hc;omega
  refine QO<|QC<|QG<|QX<|J_sr<|JS_mv rfl<|JS_mv rfl<|QA (JK (n:=n) (i.i) (fun F hR=>hR) rfl rfl Sv Js (by omega))<|QA (Xq (n:=n) (vs:=[tx (el l (i.i)).1,tx (el l (i.i)).2]) ((i.i)*2) (fun F hR=>hR) (by omega) rfl Js rfl (fun j v hv=>J2 (f:=spC) (l:=l) Xde (by omega) hv))<|QH rfl (fun w F hF hR=>dZ hF (hl.2 _ (JN hi))) (fun _=>JS_as rfl<|JS_nt<|J_sr<|JS_mv rfl<|QA (QU rfl rfl rfl)<|QE<|QC ?_)
  refine QP rfl (fun hc=>?_) (fun hc=>?_)
  ·
   refine J_sr<|JS_mv rfl<|JS_as rfl<|JS_nt<|QS ?_
   repeat (first | refine JE ?_ | refine Q3 ?_)
   exact F_r1 rfl rfl (congrArg (Value.int .i64) (i.hit hi (by simpa using hc))) (fun F h9=>trivial)
  ·
   refine QO<|Qk<|QC<|QB<|JS_mv rfl<|QA (Qp rfl rfl (by omega))<|JS_as rfl<|QE ?_
   exact Ql (i.next hi (by simpa using hc)) (by show l.length - (i.i+1)<l.length - i.i;omega) ⟨rfl,rfl,trivial⟩ subl_r (fun F h=>h.1)
 ·
  have hi:l.length≤i.i:=by have:=dec_f hc;omega
  refine Qy ?_
  repeat (first | refine QZ ?_ | refine QV (by rfl) ?_)
  refine Qa<|QC<|J_sr<|JS_as rfl<|JS_nt<|QS ?_
  exact F_r1 rfl rfl (congrArg (Value.int .i64) (i.stop hi)) (fun F hR=>trivial)
theorem jy {w:World} {F:Gs} {q:Option Addr} {n c:Nat} {l:List (List UInt8)} (hF:Fits F w) (hR:Q4 F q n 1 (l.map tx)) (hl:l.length=n∧∀ s∈l,s.length≤1000000) (hn:n≤1000000):Qc Tryz.prog 206 [.slice q n c] w F (.int .i64 (Qm (l.map Wi))):=by
 have hln:=hl.1
 refine QT.intro (G:=fun F=>Q4 F q n 1 (l.map tx)) Tryz.func206 rfl (by rfl) rfl rfl hF (fun F' hF'=>hR.le hF')<|J_sr<|JS_as rfl<|JS_nt<|QG<|J_sr<|JS_as rfl<|JS_nt<|QX<|ZT (ι:=Y3 l Wi) [(0,_)] (fun i=>[(3,.int .i64 ((i.i:Nat):Int))]) (fun i=>l.length - i.i) (Y3.start _ _) ⟨rfl,trivial⟩ ⟨rfl,trivial⟩ (fun i=>?_)
 simp only [List.cons_append,List.nil_append]
 refine QG<|J_sr<|JS_mv rfl<|JS_mv rfl<|QA (Qi rfl Hz)<|QA (QU rfl rfl rfl)<|QE<|QC ?_
 refine QP rfl (fun hc=>?_) (fun hc=>?_)
 ·
  have hi:i.i<l.length:=by have:=dec_t hc;omega
  have hel:=hl.2 _ (JN hi)
  refine QO<|QC<|QG<|QX<|J_sr<|JS_mv rfl<|JS_mv rfl<|QA (JK (n:=n) (i.i) (fun F hR=>hR) rfl rfl Hz Jy (by omega))<|QA (JM (n:=n) ((i.i)*1) (fun F hR=>hR) (by omega) rfl Jy (DR (f:=tx) (l:=l) (by omega)))<|QH rfl (fun w F hF hR=>jx hF (by omega)) (fun _=>QA (QU rfl rfl rfl)<|QE<|QC ?_)
  refine QP rfl (fun hc=>?_) (fun hc=>?_)
  ·
   refine J_sr<|JS_as rfl<|JS_nt<|QS ?_
   repeat (first | refine JE ?_ | refine Q3 ?_)
   exact F_r1 rfl rfl (congrArg (Value.int .i64) (by have h:=i.hit hi (by simpa using hc);rw [h];have h2:Wi (el l i.i)≠0:=(by simpa using hc);unfold Wi at h2 ⊢;split at h2<;>simp_all)) (fun F h9=>trivial)
  ·
   refine QO<|Qk<|QC<|QB<|JS_mv rfl<|QA (Qp rfl rfl (by omega))<|JS_as rfl<|QE ?_
   exact Ql (i.next hi (by simpa using hc)) (by show l.length - (i.i+1)<l.length - i.i;omega) ⟨rfl,rfl,trivial⟩ subl_r (fun F h=>h.1)
 ·
  have hi:l.length≤i.i:=by have:=dec_f hc;omega
  refine Qy ?_
  repeat (first | refine QZ ?_ | refine QV (by rfl) ?_)
  refine Qa<|QC<|J_sr<|JS_as rfl<|JS_nt<|QS ?_
  exact F_r1 rfl rfl (congrArg (Value.int .i64) (i.stop hi)) (fun F hR=>trivial)
theorem Ce (a:List UInt8):(numOf a).length≤a.length:=by unfold numOf;rw [List.length_take];omega
theorem uL {w:World} {F:Gs} {a:List UInt8} {d:Int} (hF:Fits F w) (hl:a.length≤1000000) (hd:0≤d∧d≤1000000):Qc Tryz.prog 126 [tx a,.int .i64 d] w F (.bool (P2 a d)):=by
 have hn:=Ce a
 refine QT.intro (G:=fun F=>True) Tryz.func126 rfl (by rfl) rfl rfl hF (fun F' hF'=>trivial)<|J_sr<|JS_as rfl<|JS_nt<|J_sr<|JS_mv rfl<|QA (XA rfl En)<|JS_mv rfl<|QA (Wo rfl rfl (by omega))<|QA (Qp rfl rfl (by omega))<|QA (QU rfl rfl rfl)<|JS_mv rfl ?_
 refine Qn (t:=11) rfl (fun hb11=>?_) (fun hb11=>?_)
 ·
  refine QJ rfl rfl<|JS_mv rfl<|QJ rfl rfl<|QH rfl (fun w F hF hT=>S7 hF (hl)) (fun _=>QJ rfl rfl<|QA (QU rfl rfl rfl)<|QA (Qj rfl rfl rfl)<|JS_mv rfl ?_)
  refine Qn (t:=16) rfl (fun hb16=>?_) (fun hb16=>?_)
  ·
   refine QJ rfl rfl<|JS_mv rfl<|QJ rfl rfl<|QH rfl (fun w F hF h9=>x6 hF (by omega)) (fun _=>QJ rfl rfl<|QH rfl (fun w F hF h9=>zC hF ) (fun _=>QJ rfl rfl<|QA (XA rfl En)<|QJ rfl rfl<|JS_mv rfl<|QJ rfl rfl<|QA (QU rfl rfl rfl)<|QA (Qj rfl rfl rfl)<|JS_mv rfl ?_))
   refine Qn (t:=24) rfl (fun hb24=>?_) (fun hb24=>?_)
   ·
    refine QJ rfl rfl<|JS_mv rfl<|QJ rfl rfl<|QH rfl (fun w F hF h9=>zA hF (by omega)) (fun _=>QJ rfl rfl<|QA (XA rfl En)<|QJ rfl rfl<|JS_mv rfl<|QJ rfl rfl<|QA (QU rfl rfl rfl)<|QA (Qj rfl rfl rfl)<|JS_as rfl<|JS_nt<|QS ?_)
    exact F_r1 rfl rfl ((congrArg Value.bool (by have h1:=dec_t hb11;simp [P2,h1];simp at hb16 hb24;simp [hb16,hb24]))) (fun F h9=>trivial)
   ·
    refine QN rfl rfl rfl<|QN rfl rfl rfl<|QN rfl rfl rfl<|QN rfl rfl rfl<|QN rfl rfl rfl<|QA (Qh rfl rfl rfl)<|JS_as rfl<|JS_nt<|QS ?_
    exact F_r1 rfl rfl ((congrArg Value.bool (by have h1:=dec_t hb11;simp [P2,h1];simp at hb16 hb24;simp [hb16];intro g;omega))) (fun F h9=>trivial)
  ·
   refine QN rfl rfl rfl<|QN rfl rfl rfl<|QN rfl rfl rfl<|QN rfl rfl rfl<|QN rfl rfl rfl<|QN rfl rfl rfl<|QA (Qh rfl rfl rfl)<|JS_mv rfl<|QN rfl rfl rfl<|QN rfl rfl rfl<|QN rfl rfl rfl<|QN rfl rfl rfl<|QN rfl rfl rfl<|QA (Qh rfl rfl rfl)<|JS_as rfl<|JS_nt<|QS ?_
   exact F_r1 rfl rfl ((congrArg Value.bool (by have h1:=dec_t hb11;simp at hb16;simp [P2,h1,hb16]))) (fun F h9=>trivial)
 ·
  refine QN rfl rfl rfl<|QN rfl rfl rfl<|QN rfl rfl rfl<|QA (Qh rfl rfl rfl)<|JS_mv rfl<|QN rfl rfl rfl<|QN rfl rfl rfl<|QN rfl rfl rfl<|QN rfl rfl rfl<|QN rfl rfl rfl<|QN rfl rfl rfl<|QA (Qh rfl rfl rfl)<|JS_mv rfl<|QN rfl rfl rfl<|QN rfl rfl rfl<|QN rfl rfl rfl<|QN rfl rfl rfl<|QN rfl rfl rfl<|QA (Qh rfl rfl rfl)<|JS_as rfl<|JS_nt<|QS ?_
  exact F_r1 rfl rfl ((congrArg Value.bool (by simp [P2,hb11]))) (fun F hT=>trivial)
end
section
open Go.RowKit Go.ChangeShapes Go.WideShapes Ig
section
variable {H:Type} {enc:TypeId×Value→H} {w:World}
set_option maxRecDepth 100000 in
theorem Xdg (n:Nat) (cs:List Value) (x:DataW H×List MemPlace) (h:DataW.trod enc Tryz.prog w 0 (fun _=>true) true n 24 cs=some x):∃ y:List UInt8×List UInt8,cs=spC y:=by
 obtain ⟨y0,y1,m,_,hl,h0,h1⟩:=trod_struct2 Tryz.underlying24 h
 have c2:Tryz.prog.cellsOf 24=2:=by kernel_rfl
 have c1:Tryz.prog.cellsOf 22=1:=by kernel_rfl
 rw [c2] at hl
 match cs,hl with
 |[a,b],_ =>
  dsimp only at h0 h1
  rw [c1] at h0 h1
  obtain ⟨lo,rfl⟩:=Fi LW (v:=a) h0
  obtain ⟨hi,rfl⟩:=Fi LW (v:=b) h1
  exact⟨(lo,hi),rfl⟩
set_option maxRecDepth 100000 in
theorem Xf8 {b:Nat} {v:Value} {d:DataW H} {p:List MemPlace} (hv:Value.okWide Tryz.prog w .any b 42 v) (h:DataW.Trod enc Tryz.prog w 0 (fun _=>true) true 42 v d p) :
  ∃ (q:Option Addr) (n cap:Nat) (l:List (List UInt8×List UInt8)),v = .slice q n cap∧Q4 (Wb w) q n 2 (l.flatMap spC)∧l.length=n∧n≤9223372036854775807 :=
 open_row (f := spC) Tryz.underlying42 (show Tryz.prog.cellsOf 24 = 2 by kernel_rfl) (by decide) (fun _ => rfl) Xdg hv h
theorem Xfi (n:Nat) (cs:List Value) (x:DataW H×List MemPlace) (h:DataW.trod enc Tryz.prog w 0 (fun _=>true) true n 22 cs=some x):∃ y:List UInt8,cs=[tx y]:=by
 obtain ⟨s,rfl,_⟩:=DataW.trod_string LW h
 exact⟨s.data.toList,by simp [tx]⟩
set_option maxRecDepth 100000 in
theorem Xfk {b:Nat} {v:Value} {d:DataW H} {p:List MemPlace} (hv:Value.okWide Tryz.prog w .any b 44 v) (h:DataW.Trod enc Tryz.prog w 0 (fun _=>true) true 44 v d p) :
  ∃ (q:Option Addr) (n cap:Nat) (l:List (List UInt8)),v = .slice q n cap∧Q4 (Wb w) q n 1 (l.flatMap fun y=>[tx y])∧l.length=n∧n≤9223372036854775807 :=
 open_row (f := fun y => [tx y]) Tryz.underlying44 (show Tryz.prog.cellsOf 22 = 1 by kernel_rfl) (by decide) (fun _ => rfl) Xfi hv h
end
end
section
open Go.RowKit Ig
theorem Xff:([49]:List UInt8)=Jg 1:=by
 have h:(1:Rat).num=1:=rfl
 unfold Jg
 rw [if_pos (by rfl),h,J3 (by decide)]
 exact(Bp (l:=[49]) (by decide)).symm
theorem Xe9:([49,47,50]:List UInt8)=Jg (Rat.divInt 1 2):=by
 have e1:Lib.decDigits 1=[49]:=Bp (l:=[49]) (by decide)
 have e2:Lib.decDigits 2=[50]:=Bp (l:=[50]) (by decide)
 have hp:=NM
 have hd:(Rat.divInt 1 2).den=2:=by have:=hp.2;omega
 unfold Jg
 rw [hd,if_neg (by decide),hp.1,e2,J3 (by decide)]
 show _=Lib.decDigits 1++_
 rw [e1];rfl
theorem Xec {w:World} {F:Gs} {x:Rat} (hF:Fits F w) (hx:JO x≤100000):Qc Tryz.prog 93 [tx (Jg x),tx [49,47,50]] w F (tx (Jg (x*Rat.divInt 1 2))):=by
 have:=uJ (x:=x) (y:=Rat.divInt 1 2) hF hx (by have:=Sj;omega)
 rw [← Xe9] at this;exact this
theorem Xez {x y:Rat} {k:Nat} (hx:JO x≤k) (hy:JO y≤k):JO (uW x y)≤k:=by unfold uW;split<;>assumption
theorem Xf0 {x y:Rat} {k:Nat} (hx:JO x≤k) (hy:JO y≤k):JO (uX x y)≤k:=by unfold uX;split<;>assumption
def Xdd (i:Nat):Rat:=Rat.divInt 1 2^i
theorem Xdu (i:Nat):JO (Xdd i)≤2*i+1:=by
 have h:=Wm (Rat.divInt 1 2) i
 have h2:=Sj
 have:i*JO (Rat.divInt 1 2)≤i*2:=Nat.mul_le_mul_left _ h2
 unfold Xdd;omega
theorem Xe2 (i:Nat):(Xdd i).num≠0:=by
 intro e
 have h0:=Rat.num_eq_zero.1 e
 unfold Xdd at h0
 have h1:Rat.divInt 1 2≠0:=by
  intro h
  have:=NM.1
  rw [h] at this;exact absurd this (by decide)
 induction i with
 |zero=>rw [Rat.pow_zero] at h0;exact absurd h0 (by decide)
 |succ n ih =>
  rw [Rat.pow_succ] at h0
  rcases Rat.mul_eq_zero.1 h0 with h | h
  ·exact ih (Rat.num_eq_zero.2 h) h
  ·exact h1 h
theorem Xen {w:World} {F:Gs} {x:Rat} (hF:Fits F w) (hx:JO x≤100000):Qc Tryz.prog 34 [tx (Jg x)] w F (tx (Jg (x*Rat.divInt 1 2))):=by
 refine QT.intro (G:=fun F=>True) Tryz.func34 rfl (by rfl) rfl rfl hF (fun F' hF'=>trivial)<|J_sr<|JS_as rfl<|JS_nt<|J_sr<|JS_mv rfl<|QH rfl (fun w F hF hT=>Xec hF (hx)) (fun _=>JS_as rfl<|JS_nt<|QS ?_)
 exact F_r1 rfl rfl (rfl) (fun F h9=>trivial)
theorem Xfx {w:World} {F:Gs} {b:Int} (hF:Fits F w) (h0:0≤b) (h1:b≤1000):Qc Tryz.prog 31 [.int .i64 b] w F (tx (Jg (Xdd b.toNat))):=by
 refine QT.intro (G:=fun F=>True) Tryz.func31 rfl (by rfl) rfl rfl hF (fun F' hF'=>trivial)<|J_sr<|JS_as rfl<|JS_nt<|J_sr<|JS_as rfl<|JS_nt<|QG<|J_sr<|JS_as rfl<|JS_nt<|QX<|ZT (ι:={i:Nat // i≤b.toNat}) [(0,_)] (fun i=>[(3,tx (Jg (Xdd i.1))),(4,.int .i64 ((i.1:Nat):Int))]) (fun i=>b.toNat - i.1) (⟨0,Nat.zero_le _⟩) ⟨rfl,trivial⟩ ⟨(congrArg (fun l=>some (tx l)) (show [49]=Jg (Xdd 0) by rw [Xff];rfl)),rfl,trivial⟩ (fun i=>?_)
 simp only [List.cons_append,List.nil_append]
 have hi:=i.2
 have hg:=Xdu i.1
 refine QG<|J_sr<|JS_mv rfl<|JS_mv rfl<|QA (QU rfl rfl rfl)<|QE<|QC ?_
 refine QP rfl (fun hc=>?_) (fun hc=>?_)
 ·
  have hlt:i.1+1≤b.toNat:=by have:=dec_t hc;omega
  refine QO<|QC<|QG<|QX<|QB<|JS_mv rfl<|QH rfl (fun w F hF hT=>Xen hF (by omega)) (fun _=>JS_as rfl<|QE<|Qk<|QC<|QB<|JS_mv rfl<|QA (Qp rfl rfl (by omega))<|JS_as rfl<|QE ?_)
  exact Ql (⟨i.1+1,hlt⟩) (by show b.toNat - (i.1+1)<b.toNat - i.1;omega) ⟨rfl,(congrArg (fun l=>some (tx l)) (show Jg (Xdd i.1*Rat.divInt 1 2)=Jg (Xdd (i.1+1)) by unfold Xdd;rw [Rat.pow_succ])),rfl,trivial⟩ subl_r (fun F h=>h.1)
 ·
  have hge:i.1=b.toNat:=by have:=dec_f hc;omega
  refine Qy ?_
  repeat (first | refine QZ ?_ | refine QV (by rfl) ?_)
  refine Qa<|QC<|J_sr<|JS_mv rfl<|JS_as rfl<|JS_nt<|QS ?_
  exact F_r1 rfl rfl (by rw [hge]) (fun F hT=>trivial)
theorem Xei {w:World} {F:Gs} {x y:Rat} (hF:Fits F w) (hx:JO x≤30000) (hy:JO y≤30000):Qc Tryz.prog 99 [tx (Jg x),tx (Jg y)] w F (tx (Jg (uW x y))):=by
 refine QT.intro (G:=fun F=>True) Tryz.func99 rfl (by rfl) rfl rfl hF (fun F' hF'=>trivial)<|J_sr<|JS_as rfl<|JS_nt<|QG<|J_sr<|JS_mv rfl<|JS_mv rfl<|QH rfl (fun w F hF hT=>uM hF (hx) (hy)) (fun _=>QA (QU rfl rfl rfl)<|QE<|QC ?_)
 refine QP rfl (fun hc=>?_) (fun hc=>?_)
 ·
  refine J_sr<|JS_mv rfl<|JS_as rfl<|JS_nt<|QS ?_
  exact F_r1 rfl rfl (by unfold uW;rw [if_pos (dec_t hc)]) (fun F h9=>trivial)
 ·
  refine QO<|QC<|J_sr<|JS_mv rfl<|JS_as rfl<|JS_nt<|QS ?_
  exact F_r1 rfl rfl (by unfold uW;rw [if_neg (dec_f hc)]) (fun F h9=>trivial)
theorem Xej {w:World} {F:Gs} {x y:Rat} (hF:Fits F w) (hx:JO x≤30000) (hy:JO y≤30000):Qc Tryz.prog 100 [tx (Jg x),tx (Jg y)] w F (tx (Jg (uX x y))):=by
 refine QT.intro (G:=fun F=>True) Tryz.func100 rfl (by rfl) rfl rfl hF (fun F' hF'=>trivial)<|J_sr<|JS_as rfl<|JS_nt<|QG<|J_sr<|JS_mv rfl<|JS_mv rfl<|QH rfl (fun w F hF hT=>uM hF (hx) (hy)) (fun _=>QA (QU rfl rfl rfl)<|QE<|QC ?_)
 refine QP rfl (fun hc=>?_) (fun hc=>?_)
 ·
  refine J_sr<|JS_mv rfl<|JS_as rfl<|JS_nt<|QS ?_
  exact F_r1 rfl rfl (by unfold uX;rw [if_pos (dec_t hc)]) (fun F h9=>trivial)
 ·
  refine QO<|QC<|J_sr<|JS_mv rfl<|JS_as rfl<|JS_nt<|QS ?_
  exact F_r1 rfl rfl (by unfold uX;rw [if_neg (dec_f hc)]) (fun F h9=>trivial)
theorem Xdq {w:World} {F:Gs} {s:List UInt8} (hF:Fits F w):Qc Tryz.prog 101 [tx s] w F (.agg #[tx s,tx s]):=by
 refine QT.intro (G:=fun F=>True) Tryz.func101 rfl (by rfl) rfl rfl hF (fun F' hF'=>trivial)<|J_sr<|Qf Yk (fun b2=>JS_nt<|J_sr<|JS_mv rfl<|JS_mv rfl<|QA (Q6 rfl KI Yk (.cons (vs:=[_]) rfl rfl rfl (.here .nil) (.cons (vs:=[_]) rfl rfl rfl (.skip (.here .nil)) .nil)))<|QQ (vs:=[_,_]) rfl rfl rfl Js rfl .here (.here (.here .nil)) ⟨rfl,rfl,trivial⟩<|JS_nt<|QS ?_)
 exact QR (()) rfl (.Jc (c:=[_,_]) rfl Js .here .nil) (rfl) (fun F hT=>trivial)
theorem Xef {w:World} {F:Gs} {a b:Rat×Rat} (hF:Fits F w) (ha:uB 30000 a) (hb:uB 30000 b):Qc Tryz.prog 52 [cq a,cq b] w F (cq (a.1+b.1,a.2+b.2)):=by
 obtain ⟨ha1,ha2⟩:=ha
 obtain ⟨hb1,hb2⟩:=hb
 refine QT.intro (G:=fun F=>True) Tryz.func52 rfl (by rfl) rfl rfl hF (fun F' hF'=>trivial)<|J_sr<|Q5 rfl (vs:=[_,_]) rfl (fun b2=>Q5 rfl (vs:=[_,_]) rfl (fun b3=>Qf Yk (fun b4=>JS_nt<|QG<|JR (.cons _ (.cons_cons _ (.cons_cons _ .slnil))) mixed (by kernel_rfl)<|QM (QI rfl Eb Jy)<|QM (Qo rfl Jy (.there .here) (.here .nil))<|QM (QI rfl Eb Jy)<|QM (Qo rfl Jy .here (.here .nil))<|Qg rfl (fun w F hF hT=>vQ hF (by omega) (by omega)) (fun _=>QM (QI rfl Ea Jy)<|QM (Qo rfl Jy (.there .here) (.skip (.here .nil)))<|QM (QI rfl Ea Jy)<|QM (Qo rfl Jy .here (.skip (.here .nil)))<|Qg rfl (fun w F hF h9=>vQ hF (by omega) (by omega)) (fun _=>QM (Q6 rfl KI Yk (.cons (vs:=[_]) rfl rfl rfl (.here .nil) (.cons (vs:=[_]) rfl rfl rfl (.skip (.here .nil)) .nil)))<|Jh (vs:=[_,_]) rfl rfl rfl Js rfl .here (.cons_cons _ (.cons_cons _ .slnil)) (fun _ h=>h.1.1) (.here (.here .nil)) ⟨rfl,rfl,trivial⟩<|Q9<|QC<|QS ?_)))))
 exact QR (()) rfl (.Jc (c:=[_,_]) rfl Js .here .nil) (rfl) (fun F h9=>trivial)
def Xfa (a b:Rat×Rat):Rat×Rat:=(uW (uW (a.1*b.1) (a.1*b.2)) (uW (a.2*b.1) (a.2*b.2)),uX (uX (a.1*b.1) (a.1*b.2)) (uX (a.2*b.1) (a.2*b.2)))
theorem Xf2 {w:World} {F:Gs} {a b:Rat×Rat} (hF:Fits F w) (ha:uB 15000 a) (hb:uB 15000 b):Qc Tryz.prog 54 [cq a,cq b] w F (cq (Xfa a b)):=by
 obtain ⟨ha1,ha2⟩:=ha
 obtain ⟨hb1,hb2⟩:=hb
 refine QT.intro (G:=fun F=>True) Tryz.func54 rfl (by rfl) rfl rfl hF (fun F' hF'=>trivial)<|J_sr<|Q5 rfl (vs:=[_,_]) rfl (fun b2=>Q5 rfl (vs:=[_,_]) rfl (fun b3=>Qf Yk (fun b4=>JS_nt<|QG ?_)))
 have m1:=XJ a.1 b.1
 have m2:=XJ a.1 b.2
 have m3:=XJ a.2 b.1
 have m4:=XJ a.2 b.2
 refine JR subl_r mixed (by kernel_rfl)<|QM (QI rfl Eb Jy)<|QM (Qo rfl Jy (.there (.there .here)) (.here .nil))<|QM (QI rfl Eb Jy)<|QM (Qo rfl Jy (.there .here) (.here .nil))<|Qg rfl (fun w F hF hT=>uJ hF (by omega) (by omega)) (fun _=>QM (QI rfl Eb Jy)<|QM (Qo rfl Jy (.there (.there .here)) (.here .nil))<|QM (QI rfl Ea Jy)<|QM (Qo rfl Jy (.there .here) (.skip (.here .nil)))<|Qg rfl (fun w F hF h9=>uJ hF (by omega) (by omega)) (fun _=>QM (QI rfl Ea Jy)<|QM (Qo rfl Jy (.there (.there .here)) (.skip (.here .nil)))<|QM (QI rfl Eb Jy)<|QM (Qo rfl Jy (.there .here) (.here .nil))<|Qg rfl (fun w F hF h9=>uJ hF (by omega) (by omega)) (fun _=>QM (QI rfl Ea Jy)<|QM (Qo rfl Jy (.there (.there .here)) (.skip (.here .nil)))<|QM (QI rfl Ea Jy)<|QM (Qo rfl Jy (.there .here) (.skip (.here .nil)))<|Qg rfl (fun w F hF h9=>uJ hF (by omega) (by omega)) (fun _=>QM (QF rfl)<|QM (QF rfl)<|QM (QF rfl)<|QM (QF rfl) ?_))))
 refine Q9<|QC<|J_sr<|JS_mv rfl<|JS_mv rfl<|QH rfl (fun w F hF h9=>Xei hF (by omega) (by omega)) (fun _=>JS_mv rfl<|JS_mv rfl<|QH rfl (fun w F hF h9=>Xei hF (by omega) (by omega)) (fun _=>QH rfl (fun w F hF h9=>Xei hF (Xez (k:=30000) (by omega) (by omega)) (Xez (k:=30000) (by omega) (by omega))) (fun _=>JS_mv rfl<|JS_mv rfl<|QH rfl (fun w F hF h9=>Xej hF (by omega) (by omega)) (fun _=>JS_mv rfl<|JS_mv rfl<|QH rfl (fun w F hF h9=>Xej hF (by omega) (by omega)) (fun _=>QH rfl (fun w F hF h9=>Xej hF (Xf0 (k:=30000) (by omega) (by omega)) (Xf0 (k:=30000) (by omega) (by omega))) (fun _=>QA (Q6 rfl KI Yk (.cons (vs:=[_]) rfl rfl rfl (.here .nil) (.cons (vs:=[_]) rfl rfl rfl (.skip (.here .nil)) .nil)))<|QQ (vs:=[_,_]) rfl rfl rfl Js rfl .here (.here (.here .nil)) ⟨rfl,rfl,trivial⟩<|JS_nt<|QS ?_))))))
 exact QR (()) rfl (.Jc (c:=[_,_]) rfl Js .here .nil) (rfl) (fun F h9=>trivial)
theorem Xep {w:World} {F:Gs} {x:Rat} {n:Int} (hF:Fits F w) (hx:JO x≤5000) (hn:0≤n∧n≤12):Qc Tryz.prog 150 [tx (Jg x),.int .i64 n] w F (tx (Jg (x^n.toNat))):=by
 refine QT.intro (G:=fun F=>True) Tryz.func150 rfl (by rfl) rfl rfl hF (fun F' hF'=>trivial)<|J_sr<|JS_as rfl<|JS_nt<|J_sr<|JS_as rfl<|JS_nt<|QG<|J_sr<|JS_as rfl<|JS_nt<|QX<|ZT (ι:={i:Nat // i≤n.toNat}) [(0,_),(1,_)] (fun i=>[(5,tx (Jg (x^i.1))),(6,.int .i64 ((i.1:Nat):Int))]) (fun i=>n.toNat - i.1) (⟨0,Nat.zero_le _⟩) ⟨rfl,rfl,trivial⟩ ⟨(congrArg (fun l=>some (tx l)) (show [49]=Jg (x^0) by rw [Xff,Rat.pow_zero])),rfl,trivial⟩ (fun i=>?_)
 simp only [List.cons_append,List.nil_append]
 have hi:=i.2
 have hp:=Wm x i.1
 have hm:i.1*JO x≤12*5000:=Nat.mul_le_mul (by omega) hx
 refine QG<|J_sr<|JS_mv rfl<|JS_mv rfl<|QA (QU rfl rfl rfl)<|QE<|QC ?_
 refine QP rfl (fun hc=>?_) (fun hc=>?_)
 ·
  have hlt:i.1+1≤n.toNat:=by have:=dec_t hc;omega
  refine QO<|QC<|QG<|QX<|QB<|JS_mv rfl<|JS_mv rfl<|QH rfl (fun w F hF hT=>uJ hF (by omega) (by omega)) (fun _=>JS_as rfl<|QE<|Qk<|QC<|QB<|JS_mv rfl<|QA (Qp rfl rfl (by omega))<|JS_as rfl<|QE ?_)
  exact Ql (⟨i.1+1,hlt⟩) (by show n.toNat - (i.1+1)<n.toNat - i.1;omega) ⟨rfl,rfl,(congrArg (fun l=>some (tx l)) (show Jg (x^i.1*x)=Jg (x^(i.1+1)) by rw [Rat.pow_succ])),rfl,trivial⟩ subl_r (fun F h=>h.1)
 ·
  have hge:i.1=n.toNat:=by have:=dec_f hc;omega
  refine Qy ?_
  repeat (first | refine QZ ?_ | refine QV (by rfl) ?_)
  refine Qa<|QC<|J_sr<|JS_mv rfl<|JS_as rfl<|JS_nt<|QS ?_
  exact F_r1 rfl rfl (by rw [hge]) (fun F hT=>trivial)
end
section
open Go.RowKit Ig
theorem Xfe {w:World} {F:Gs} {x:Rat} (hF:Fits F w) (hx:JO x≤100000):Qc Tryz.prog 35 [tx (Jg x)] w F (tx (Jg (-x))):=by
 have:=uI (s:=Jg x) hF (by have:=Gd x;omega)
 rw [yz] at this;exact this
theorem Xf1 {w:World} {F:Gs} {x:Rat} (hF:Fits F w):Qc Tryz.prog 38 [tx (Jg x)] w F (.int .i64 (Nr x.num)):=by
 have:=LG (s:=Jg x) hF
 rw [jt] at this;exact this
def Xcd (x:Rat) (i:Nat):Rat:=((x / Xdd i).floor:Rat)*Xdd i
theorem Xev {x:Rat} {i:Nat} (hx:JO x≤20000) (hi:i≤64):JO (x / Xdd i)≤20200∧sz (x / Xdd i).floor≤20200∧JO (((x / Xdd i).floor:Int):Rat)≤20200∧JO (Xcd x i)≤20400:=by
 have hg:=Xdu i
 have hgn:=Xe2 i
 have h1:=Cx hgn
 have hd:=XJ x (Xdd i)⁻¹
 rw [← Rat.div_def] at hd
 have hf:=Mo (x / Xdd i)
 have hfi:=Ep (x / Xdd i).floor
 have hm:=XJ (((x / Xdd i).floor:Int):Rat) (Xdd i)
 unfold Xcd
 omega
theorem Xg0 {w:World} {F:Gs} {a:Rat×Rat} {b:Int} (hF:Fits F w) (ha:uB 20000 a) (h0:0≤b) (h1:b≤64):Qc Tryz.prog 27 [cq a,.int .i64 b] w F (cq (Xcd a.1 b.toNat,-Xcd (-a.2) b.toNat)):=by
 obtain ⟨ha1,ha2⟩:=ha
 have hg:=Xdu b.toNat
 have hgn:=Xe2 b.toNat
 obtain ⟨f1,f2,f3,f4⟩:=Xev (x:=a.1) (i:=b.toNat) ha1 (by omega)
 have hn2:JO (-a.2)≤20000:=by rw [Eo];exact ha2
 obtain ⟨g1,g2,g3,g4⟩:=Xev (x:=-a.2) (i:=b.toNat) hn2 (by omega)
 have l2:=Gd a.2
 have l3:=Gd (Xcd (-a.2) b.toNat)
 refine QT.intro (G:=fun F=>True) Tryz.func27 rfl (by rfl) rfl rfl hF (fun F' hF'=>trivial)<|J_sr<|Q5 rfl (vs:=[_,_]) rfl (fun b2=>Qf Yk (fun b4=>JS_nt<|J_sr<|JS_mv rfl<|QH rfl (fun w F hF hT=>Xfx hF (h0) (by omega)) (fun _=>JS_as rfl<|JS_nt<|QG<|JR (.cons _ (.cons_cons _ .slnil)) mixed (by kernel_rfl)<|QM (QI rfl Eb Jy)<|QM (Qo rfl Jy .here (.here .nil))<|QM (QD rfl)<|Qg rfl (fun w F hF h9=>Xfs hF (hgn) (by omega) (by omega)) (fun _=>Qg rfl (fun w F hF h9=>Xf3 hF (by omega)) (fun _=>QM (QD rfl)<|Qg rfl (fun w F hF h9=>uJ hF (by omega) (by omega)) (fun _=>QM (QI rfl Ea Jy)<|QM (Qo rfl Jy .here (.skip (.here .nil))) ?_))))))
 refine Qg rfl (fun w F hF h9=>Xfe hF (by omega)) (fun _=>QM (QD rfl)<|Qg rfl (fun w F hF h9=>Xfs hF (hgn) (by omega) (by omega)) (fun _=>Qg rfl (fun w F hF h9=>Xf3 hF (by omega)) (fun _=>QM (QD rfl)<|Qg rfl (fun w F hF h9=>uJ hF (by omega) (by omega)) (fun _=>Qg rfl (fun w F hF h9=>Xfe hF (by show JO (Xcd (-a.2) b.toNat)≤100000;omega)) (fun _=>QM (Q6 rfl KI Yk (.cons (vs:=[_]) rfl rfl rfl (.here .nil) (.cons (vs:=[_]) rfl rfl rfl (.skip (.here .nil)) .nil)))<|Jh (vs:=[_,_]) rfl rfl rfl Js rfl .here (.cons_cons _ .slnil) (fun _ h=>h.1.1.1.1.1.1.1.1) (.here (.here .nil)) ⟨rfl,rfl,trivial⟩<|Q9<|QC<|QS ?_)))))
 exact QR (()) rfl (.Jc (c:=[_,_]) rfl Js .here .nil) (rfl) (fun F h9=>trivial)
def Xfj (a:Rat×Rat) (n:Int):Rat×Rat:=(if(decide (n>0)&&(decide (n%2=0)&&(decide (Nr a.1.num<0)&&decide (Nr a.2.num>0))))=true then 0 else uW (a.1^n.toNat) (a.2^n.toNat),uX (a.1^n.toNat) (a.2^n.toNat))
theorem Xew {w:World} {F:Gs} {a:Rat×Rat} {n:Int} (hF:Fits F w) (ha:uB 2000 a) (hn:0≤n∧n≤12):Qc Tryz.prog 50 [cq a,.int .i64 n] w F (cq (Xfj a n)):=by
 obtain ⟨ha1,ha2⟩:=ha
 have p1:=Wm a.1 n.toNat
 have p2:=Wm a.2 n.toNat
 have m1:n.toNat*JO a.1≤12*2000:=Nat.mul_le_mul (by omega) ha1
 have m2:n.toNat*JO a.2≤12*2000:=Nat.mul_le_mul (by omega) ha2
 refine QT.intro (G:=fun F=>True) Tryz.func50 rfl (by rfl) rfl rfl hF (fun F' hF'=>trivial)<|J_sr<|Q5 rfl (vs:=[_,_]) rfl (fun b2=>Qf Yk (fun b4=>JS_nt<|QG<|JR subl_r mixed (by kernel_rfl)<|QM (QI rfl Eb Jy)<|QM (Qo rfl Jy (.there .here) (.here .nil))<|QM (QD rfl)<|Qg rfl (fun w F hF hT=>Xep hF (by omega) (hn)) (fun _=>QM (QI rfl Ea Jy)<|QM (Qo rfl Jy (.there .here) (.skip (.here .nil)))<|QM (QD rfl)<|Qg rfl (fun w F hF h9=>Xep hF (by omega) (hn)) (fun _=>QM (QF rfl)<|QM (QF rfl)<|Q9<|QC<|J_sr<|JS_mv rfl<|JS_mv rfl ?_))))
 refine QH rfl (fun w F hF h9=>Xei hF (by omega) (by omega)) (fun _=>JS_mv rfl<|JS_mv rfl<|QH rfl (fun w F hF h9=>Xej hF (by omega) (by omega)) (fun _=>QA (Q6 rfl KI Yk (.cons (vs:=[_]) rfl rfl rfl (.here .nil) (.cons (vs:=[_]) rfl rfl rfl (.skip (.here .nil)) .nil)))<|Qf Yk (fun b7=>QQ (vs:=[_,_]) rfl rfl rfl Js rfl .here (.here (.here .nil)) ⟨rfl,rfl,trivial⟩<|JS_nt<|QG ?_)))
 refine K5 [(4,_),(7,_)] [(41,.bool ((decide (n>0)&&(decide (n%2=0)&&(decide (Nr a.1.num<0)&&decide (Nr a.2.num>0))))))] ⟨rfl,rfl,trivial⟩ ?_ ?_
 ·
  refine QB<|JS_mv rfl<|QA (QU rfl rfl rfl)<|JS_mv rfl ?_
  refine Qn (t:=25) rfl (fun hb25=>?_) (fun hb25=>?_)
  ·
   refine QJ rfl rfl<|JS_mv rfl<|QJ rfl rfl<|QA (VH rfl rfl (by omega) (by omega))<|QJ rfl rfl<|QA (QU rfl rfl rfl)<|QA (Qj rfl rfl rfl)<|JS_mv rfl ?_
   refine Qn (t:=30) rfl (fun hb30=>?_) (fun hb30=>?_)
   ·
    refine QJ rfl rfl<|QA (QI rfl Eb Jy)<|QJ rfl rfl<|QA (Qo rfl Jy (.there (.there .here)) (.here .nil))<|QJ rfl rfl<|QH rfl (fun w F hF h9=>Xf1 hF ) (fun _=>QJ rfl rfl<|QA (QU rfl rfl rfl)<|QA (Qj rfl rfl rfl)<|JS_mv rfl ?_)
    refine Qn (t:=36) rfl (fun hb36=>?_) (fun hb36=>?_)
    ·
     refine QJ rfl rfl<|QA (QI rfl Ea Jy)<|QJ rfl rfl<|QA (Qo rfl Jy (.there (.there .here)) (.skip (.here .nil)))<|QJ rfl rfl<|QH rfl (fun w F hF h9=>Xf1 hF ) (fun _=>QJ rfl rfl<|QA (QU rfl rfl rfl)<|QA (Qj rfl rfl rfl)<|QE ?_)
     exact ZB ⟨rfl,rfl,(congrArg (fun b=>some (Value.bool b)) (by rw [Bool.eq_iff_iff];simp_all<;>(intros;omega))),trivial⟩ subl_r (fun _ h=>h.1.1)
    ·
     refine QN rfl rfl rfl<|QN rfl rfl rfl<|QN rfl rfl rfl<|QN rfl rfl rfl<|QA (Qh rfl rfl rfl)<|QE ?_
     exact ZB ⟨rfl,rfl,(congrArg (fun b=>some (Value.bool b)) (by rw [Bool.eq_iff_iff];simp_all<;>(intros;omega))),trivial⟩ subl_r (fun _ h=>h.1)
   ·
    refine QN rfl rfl rfl<|QN rfl rfl rfl<|QN rfl rfl rfl<|QN rfl rfl rfl<|QA (Qh rfl rfl rfl)<|JS_mv rfl<|QN rfl rfl rfl<|QN rfl rfl rfl<|QN rfl rfl rfl<|QN rfl rfl rfl<|QA (Qh rfl rfl rfl)<|QE ?_
    exact ZB ⟨rfl,rfl,(congrArg (fun b=>some (Value.bool b)) (by rw [Bool.eq_iff_iff];simp_all<;>(intros;omega))),trivial⟩ subl_r (fun _ h=>h)
  ·
   refine QN rfl rfl rfl<|QN rfl rfl rfl<|QN rfl rfl rfl<|QA (Qh rfl rfl rfl)<|JS_mv rfl<|QN rfl rfl rfl<|QN rfl rfl rfl<|QN rfl rfl rfl<|QN rfl rfl rfl<|QA (Qh rfl rfl rfl)<|JS_mv rfl<|QN rfl rfl rfl<|QN rfl rfl rfl<|QN rfl rfl rfl<|QN rfl rfl rfl<|QA (Qh rfl rfl rfl)<|QE ?_
   exact ZB ⟨rfl,rfl,(congrArg (fun b=>some (Value.bool b)) (by rw [Bool.eq_iff_iff];simp_all<;>(intros;omega))),trivial⟩ subl_r (fun _ h=>h)
 ·
  simp only [List.cons_append,List.nil_append]
  refine QP rfl (fun hc=>?_) (fun hc=>?_)
  ·
   refine QB<|QA (QI rfl Eb Jy)<|QQ (vs:=[_]) rfl rfl rfl Jy rfl .here (.here .nil) ⟨rfl,trivial⟩<|JS_nt<|J_sr<|QA (QL (vs:=[_,_]) rfl Js .here (.here (.here .nil)) rfl)<|QQ (vs:=[_,_]) rfl rfl rfl Js rfl (.there .here) (.here (.here .nil)) ⟨rfl,rfl,trivial⟩<|JS_nt<|QS ?_
   exact QR (()) rfl (.Jc (c:=[_,_]) rfl Js (.there .here) .nil) (by unfold Xfj;rw [if_pos hc];show Value.agg #[tx (Jg 0),tx (Jg (uX (a.1^n.toNat) (a.2^n.toNat)))]=_;rw [S8]) (fun F h9=>trivial)
  ·
   refine QO<|QC<|J_sr<|QA (QL (vs:=[_,_]) rfl Js .here (.here (.here .nil)) rfl)<|QQ (vs:=[_,_]) rfl rfl rfl Js rfl (.there .here) (.here (.here .nil)) ⟨rfl,rfl,trivial⟩<|JS_nt<|QS ?_
   exact QR (()) rfl (.Jc (c:=[_,_]) rfl Js (.there .here) .nil) (by unfold Xfj;rw [if_neg (by rw [hc];decide)]) (fun F h9=>trivial)
theorem C6 {w:World} {F:Gs} {lo hi:List UInt8} (hF:Fits F w) (hl:lo.length≤1000000∧hi.length≤1000000):Qc Tryz.prog 125 [.agg #[tx lo,tx hi]] w F (.int .i64 (Qm [Wi lo,Wi hi])):=by
 refine QT.intro (G:=fun F=>True) Tryz.func125 rfl (by rfl) rfl rfl hF (fun F' hF'=>trivial)<|J_sr<|Q5 rfl (vs:=[_,_]) rfl (fun b1=>JS_as rfl<|JS_nt<|J_sr<|QA (QI rfl Eb Jy)<|QA (Qo rfl Jy .here (.here .nil))<|QA (QI rfl Ea Jy)<|QA (Qo rfl Jy .here (.skip (.here .nil)))<|QW rfl (Q7 Hz) Jy ki rfl rfl (fun b7=>QH rfl (fun w F hF ⟨hT,hs7⟩=>jy hF (n:=2) (l:=[lo,hi]) (Q4.of (n:=2) (sz:=1) hs7 rfl) (⟨rfl,fun s hs=>by simp at hs;rcases hs with rfl | rfl;exact hl.1;exact hl.2⟩) (by omega)) (fun _=>JS_as rfl<|JS_nt<|QS ?_)))
 exact F_r1 rfl rfl (rfl) (fun F h9=>trivial)
end
section
open Go.RowKit Go.ChangeShapes Go.WideShapes Ig
section
variable {H:Type} {enc:TypeId×Value→H} {w:World}
theorem kK (n:Nat) (cs:List Value) (x:DataW H×List MemPlace) (h:DataW.trod enc Tryz.prog w 0 (fun _=>true) true n 3 cs=some x):∃ y:Int,cs=[Qx y]∧True:=by
 obtain ⟨z,rfl,_⟩:=DataW.trod_int pZ h
 exact⟨z,rfl,trivial⟩
theorem kO (l:List Int):(l.flatMap fun y=>[Qx y])=l.map Qx:=by
 induction l with
 |nil=>rfl
 |cons a l ih=>rw [List.flatMap_cons,ih];rfl
theorem Xfz (l:List (List UInt8)):(l.flatMap fun y=>[tx y])=l.map tx:=by
 induction l with
 |nil=>rfl
 |cons a l ih=>rw [List.flatMap_cons,ih];rfl
set_option maxRecDepth 100000 in
theorem Xf5 (n:Nat) (cs:List Value) (x:DataW H×List MemPlace) (h:DataW.trod enc Tryz.prog w 0 (fun _=>true) true n 122 cs=some x):∃ y:Vr,cs=KU y∧JL (Wb w) y.r y.k:=by
 obtain ⟨y0,y1,m,_,hl,h0,h1⟩:=trod_struct2 Tryz.underlying122 h
 have c2:Tryz.prog.cellsOf 122=2:=by kernel_rfl
 have c1:Tryz.prog.cellsOf 22=1:=by kernel_rfl
 have c3:Tryz.prog.cellsOf 120=1:=by kernel_rfl
 rw [c2] at hl
 match cs,hl with
 |[a,b],_ =>
  dsimp only at h0 h1
  rw [c1] at h0
  rw [c3] at h1
  obtain ⟨f,rfl⟩:=Fi LW (v:=a) h0
  obtain ⟨q,n,cap,l,e,hR,hn,_,_,hc⟩:=CZ (cs:=[b]) (f:=fun y=>[Qx y]) (Q:=fun _=>True) Tryz.underlying120 (show Tryz.prog.cellsOf 3=1 by kernel_rfl) (by decide) (fun _=>rfl) kK h1
  obtain ⟨rfl⟩:=(List.cons.injEq _ _ _ _ ▸ e:_∧_).1
  rw [kO] at hR
  exact⟨⟨f,⟨q,n,cap⟩,l⟩,rfl,hR,hn,hc⟩
set_option maxRecDepth 100000 in
theorem Xf7 {t:TypeId} (ht:Tryz.prog.underlying t=some (.slice 122)) {b:Nat} {v:Value} {d:DataW H} {p:List MemPlace} (hv:Value.okWide Tryz.prog w .any b t v) (h:DataW.Trod enc Tryz.prog w 0 (fun _=>true) true t v d p) :
  ∃ (q:Option Addr) (n cap:Nat) (l:List Vr),v = .slice q n cap∧Q4 (Wb w) q n 2 (l.flatMap KU)∧Zl (Wb w) l∧l.length=n∧n≤9223372036854775807:=by
 obtain ⟨q,n,cap,l,h1,h2,h3,h4,h5⟩:=Xet (f:=KU) (Q:=fun y=>JL (Wb w) y.r y.k) ht (show Tryz.prog.cellsOf 122=2 by kernel_rfl) (by decide) (fun _=>rfl) Xf5 hv h
 exact⟨q,n,cap,l,h1,h2,h5,h3,h4⟩
end
end
section
open Go.RowKit Ig
theorem dc {a z v r:List Value} (h:z.length=v.length):Ko (a++(z++r)) a.length v (a++(v++r)):=by
 have:=Ko.mk' a.length (a++(z++r)) v (by simp only [List.length_append];omega)
 rw [List.take_left,List.drop_append,List.drop_of_length_le (by omega),List.nil_append,Nat.add_sub_cancel_left,List.drop_append,List.drop_of_length_le (by omega),List.nil_append,← h,Nat.sub_self,List.drop_zero,List.append_assoc] at this
 exact this
theorem xS (xs:List (Fr×Rat)):(FH xs).length=xs.length*4:=by
 unfold FH
 induction xs with
 |nil=>rfl
 |cons x xs ih=>rw [List.flatMap_cons,List.length_append,ih,List.length_cons,Nat.add_mul];simp [UR];omega
def cL:List Value:=[.int .i64 0,.slice none 0 0,.int .i64 0,.slice none 0 0]
theorem de {xs:List (Fr×Rat)} {i n:Nat} (h:xs.length=i) (hi:i<n) (x:Fr) (r:Rat):Ko (FH xs++X2 cL (n - i)) (0+i*4) (UR x) (FH (xs++[(x,r)])++X2 cL (n - (i+1))):=by
 have e1:n - i=(n - (i+1))+1:=by omega
 have e2:FH (xs++[(x,r)])=FH xs++UR x:=by unfold FH;rw [List.flatMap_append];simp
 rw [e1,X2,e2,List.append_assoc,show 0+i*4=(FH xs).length by rw [xS,h];omega]
 exact dc rfl
theorem kM {w:World} {F:Gs} {q:Option Addr} {n cap:Nat} {ss:List (List UInt8)} (hF:Fits F w) (hGl:JC F) (hR:Q4 F q n 1 (ss.map tx)) (hn:ss.length=n) (hl:n≤1000000) (hc:∀ s∈ss,Ja s=0∧s.length≤1000000) :
  QT Tryz.prog 187 [.slice q n cap] w F (fun(c:Sr×List (Fr×Rat))=>c.1.v) (fun c F=>Q4 F c.1.q c.1.n 4 (FH c.2)∧CK F c.2∧c.2.map (·.2)=ss.map Jk∧c.2.length=c.1.n∧c.1.n=n):=by
 refine QT.intro (G:=fun F=>JC F∧Q4 F q n 1 (ss.map tx)) Tryz.func187 rfl (by rfl) rfl rfl hF (fun F' hF'=>⟨hGl.le hF',hR.le hF'⟩)<|J_sr<|JS_as rfl<|JS_nt<|J_sr<|JS_mv rfl<|QA (Qi rfl Hz)<|Nz (n:=n) (bytes:=64) rfl rfl Wg Qe Xp rfl uf (by omega) (by omega) (fun bk=>B4 (E':=⟨w,F,[(bk,.cells (FH []++X2 cL (n - 0)).toArray 130 (0,0))],fun F=>JC F∧Q4 F q n 1 (ss.map tx)⟩) (fun _ h=>h)<|JS_as rfl<|JS_nt<|QG<|J_sr<|JS_mv rfl<|QA (Qi rfl Hz)<|JS_mv rfl<|JS_nt<|QX<|Jw (ι:=kb ss) [(3,_),(9,_),(10,_)] (fun i=>[(11,.int .i64 ((i.i:Nat):Int))]) (fun i=>[(bk,.cells (FH i.xs++X2 cL (n - i.i)).toArray 130 (0,0))]) (fun i F=>CK F i.xs) (fun i=>ss.length - i.i) (⟨0,[],Nat.zero_le _,rfl⟩) ⟨rfl,rfl,rfl,trivial⟩ ⟨rfl,trivial⟩ subl_r (fun _ _ _ h=>by cases h) (fun i=>?_))
 simp only [List.cons_append,List.nil_append]
 have hi:=i.le
 refine J_sr<|QA (QU rfl rfl rfl)<|JS_nt<|QG ?_
 refine QP rfl (fun hc2=>?_) (fun hc2=>?_)
 ·
  have hlt:i.i<ss.length:=by have:=dec_t hc2;omega
  have hcs:=hc _ (JN hlt)
  have hcl:=hcs.2
  refine QO<|QC<|QG<|QX<|J_sr<|JS_mv rfl<|QA (JK (n:=n) (i.i) (fun F h9=>h9.1.2) rfl rfl Hz Jy (by omega))<|QA (JM (n:=n) ((i.i)*1) (fun F h9=>h9.1.2) (by omega) rfl Jy (DR (f:=tx) (l:=ss) (by omega)))<|JS_as rfl<|JS_as rfl<|JS_nt<|QB<|JS_mv rfl<|JS_mv rfl<|JS_mv rfl<|QH rfl (fun w F hF h9=>Gv hF h9.1.1 ((ZO hcs.1).1) (by omega)) (fun x19=>QA (Qw (i:=i.i) rfl rfl Wg Qe (by omega))<|QQ (vs:=UR x19) rfl rfl rfl Qe rfl .here (de i.len (by omega) x19 (Jk (el ss i.i))) ⟨rfl,rfl,rfl,rfl,trivial⟩<|QE<|Qk<|QC<|QB<|QA (Qp rfl rfl (by omega)) ?_)
  refine JS_mv rfl<|QE ?_
  exact Ql (⟨i.i+1,i.xs++[(x19,Jk (el ss i.i))],hlt,by rw [X4 hlt,List.map_append,List.map_append,i.hx];rfl⟩) (by show ss.length - (i.i+1)<ss.length - i.i;omega) ⟨rfl,rfl,rfl,rfl,trivial⟩ subl_r (fun F ⟨⟨hB,hX⟩,SV⟩=>⟨hB,fun p hp=>by
   rcases List.mem_append.1 hp with hp | hp
   ·exact hX p hp
   ·rw [List.mem_singleton.1 hp];exact SV⟩)
 ·
  have hge:i.i=ss.length:=by have:=dec_f hc2;omega
  refine Qy ?_
  repeat (first | refine QZ ?_ | refine QV (by rfl) ?_)
  refine Qa<|QC<|QG<|QB ?_
  have hxl:=i.len
  have hz:X2 cL (n - i.i)=[]:=by rw [show n - i.i=0 from by omega];rfl
  rw [hz,List.append_nil]
  refine Wf (b:=bk) .here<|JS_mv rfl<|JS_as rfl<|JS_nt<|QS ?_
  exact QR ((⟨some ⟨bk,0,none⟩,n,n⟩,i.xs)) rfl (.tmp rfl .nil) (rfl) (fun F h9=>⟨Q4.of h9.2 ((xS _).trans (by rw [hxl,hge,hn])),h9.1.2,by rw [i.hx,hge,List.take_length],hxl.trans (hge.trans hn),rfl⟩)
end
section
open Go.RowKit Ig
theorem Hw (c:Rat) (xs:List Rat) (ks:List Int) (i:Nat):BC c xs ks (i+1)=BC c xs ks i*(el xs i)^(Qb ks i).toNat:=by
 unfold BC;rw [List.range_succ,List.foldl_append];rfl
def Zu (xs:List Rat) (l:List Tm):Rat:=l.foldl (fun a t=>a+BC t.1 xs t.2 t.2.length) 0
theorem z7 {ts:List XT} {xs:List Rat} {i:Nat} (h:i<ts.length):Zu xs (JG (ts.take (i+1)))=Zu xs (JG (ts.take i))+BC (el ts i).t.1 xs (el ts i).t.2 (el ts i).t.2.length:=by
 rw [Xi h];unfold Zu;rw [List.foldl_append];rfl
theorem y6 {xs:List (Fr×Rat)} {j:Nat} (h:j<xs.length):el (xs.map (·.2)) j=(el xs j).2:=by rw [ZA (by simpa using h),ZA h];simp
theorem di {w:World} {F:Gs} {q q2:Option Addr} {n cap n2 cap2:Nat} {ts:List XT} {xs:List (Fr×Rat)} (hF:Fits F w) (hP:Jm F ⟨q,n,cap⟩ ts (JG ts)) (hX:Q4 F q2 n2 4 (xs.flatMap fun p=>UR p.1)) (hXs:CK F xs) (hx:xs.length=n2) (hw:∀ t∈ts,t.t.2.length=n2∧PW t.t.2) (hl:ts.length≤1000000)
  (hb1:∀ t∈ts,∀ i,i≤n2→JO (BC t.t.1 (xs.map (·.2)) t.t.2 i)≤50000000) (hb2:∀ t∈ts,∀ i,i<n2→(Qb t.t.2 i).toNat*JO (el xs i).2≤40000000) (hb3:∀ i,i≤ts.length→JO (Zu (xs.map (·.2)) (JG (ts.take i)))≤50000000) :
  ZE Tryz.prog 186 [.slice q n cap,.slice q2 n2 cap2] w F (Zu (xs.map (·.2)) (JG ts)):=by
 have hln:ts.length=n:=hP.2.2.2.2
 refine QT.intro (G:=fun F=>Jm F ⟨q,n,cap⟩ ts (JG ts)∧Q4 F q2 n2 4 (xs.flatMap fun p=>UR p.1)∧CK F xs) Tryz.func186 rfl (by rfl) rfl rfl hF (fun F' hF'=>⟨hP.le hF',hX.le hF',hXs.le hF'⟩)<|J_sr<|Qf Xp (fun b4=>JS_nt<|J_sr<|QH rfl (fun w F hF h9=>dK hF (by omega) (by omega)) (fun x11=>Qf Xp (fun b5=>QQ (vs:=[_,_,_,_]) rfl rfl rfl Qe rfl .here (.here (.here (.here (.here .nil)))) ⟨rfl,rfl,rfl,rfl,trivial⟩<|JS_nt<|QG<|J_sr<|JS_mv rfl<|QA (Qi rfl J1)<|JS_mv rfl<|JS_nt<|QX<|Jw (ι:=EvO ts.length) [(1,_),(4,_),(5,_),(12,_),(13,_)] (fun i=>[(14,.int .i64 ((i.i:Nat):Int))]) (fun i=>[(b5,.cells (UR i.x).toArray 130 (0,0)),(b4,.cells [.int .i64 0,.slice none 0 0,.int .i64 0,.slice none 0 0].toArray 130 (0,0))]) (fun i F=>JV F i.x (Zu (xs.map (·.2)) (JG (ts.take i.i)))) (fun i=>ts.length - i.i) (⟨0,x11,Nat.zero_le _⟩) ⟨rfl,rfl,rfl,rfl,rfl,trivial⟩ ⟨rfl,trivial⟩ subl_r (fun _ h=>h.2) (fun i=>?_))))
 simp only [List.cons_append,List.nil_append]
 have hi:=i.le
 have hs3:=hb3 i.i hi
 refine J_sr<|QA (QU rfl rfl rfl)<|JS_nt<|QG ?_
 refine QP rfl (fun hc=>?_) (fun hc=>?_)
 ·
  have hlt:i.i<ts.length:=by have:=dec_t hc;omega
  have htm:=JN hlt
  have hw1:=(hw _ htm).1
  have hpw:=(hw _ htm).2
  have hl1000:=hpw.2
  have hrl:=(hP.2.1 _ htm).2.2.1
  refine QO<|QC<|QG<|QX<|J_sr<|QA (JK (n:=n) (i.i) (fun F h9=>(h9.1.1.1).1) rfl rfl J1 JZ (by omega))<|QA (Xq (n:=n) (vs:=[.int .i64 (el ts (i.i)).x.n.s,.slice (el ts (i.i)).x.n.q (el ts (i.i)).x.n.n (el ts (i.i)).x.n.cap,.int .i64 (el ts (i.i)).x.d.s,.slice (el ts (i.i)).x.d.q (el ts (i.i)).x.d.n (el ts (i.i)).x.d.cap,.slice (el ts (i.i)).r.q (el ts (i.i)).r.n (el ts (i.i)).r.cap]) ((i.i)*5) (fun F h9=>(h9.1.1.1).1) (by omega) rfl JZ rfl (fun j v hv=>J2 (f:=YY) (l:=ts) YE (by omega) hv))<|Qf Zb (fun b7=>QQ (vs:=[_,_,_,_,_]) rfl rfl rfl JZ rfl .here (.here (.here (.here (.here (.here .nil))))) ⟨rfl,rfl,rfl,rfl,rfl,trivial⟩<|JS_nt<|J_sr<|QA (QI rfl Zm Qe)<|QA (QL (vs:=[_,_,_,_]) rfl Qe .here (.here (.here (.here (.here .nil)))) rfl)<|Qf Xp (fun b8=>QQ (vs:=[_,_,_,_]) rfl rfl rfl Qe rfl .here (.here (.here (.here (.here .nil)))) ⟨rfl,rfl,rfl,rfl,trivial⟩<|JS_nt<|QG<|J_sr<|QA (QI rfl X1 Qv)<|QA (Qo rfl Qv (.there .here) (.skip (.skip (.skip (.skip (.here .nil)))))) ?_))
  refine QA (Qi rfl Qd)<|JS_mv rfl<|JS_nt<|QX<|Jw (ι:=EvI (el ts i.i).t.2.length) [(1,_),(4,_),(5,_),(8,_),(12,_),(13,_),(14,_),(21,_),(22,_)] (fun i2=>[(23,.int .i64 ((i2.j:Nat):Int))]) (fun i2=>[(b8,.cells (UR i2.y).toArray 130 (0,0)),(b7,.cells (YY (el ts i.i)).toArray 165 (0,0)),(b5,.cells (UR i.x).toArray 130 (0,0)),(b4,.cells [.int .i64 0,.slice none 0 0,.int .i64 0,.slice none 0 0].toArray 130 (0,0))]) (fun i2 F=>JV F i2.y (BC (el ts i.i).t.1 (xs.map (·.2)) (el ts i.i).t.2 i2.j)) (fun i2=>(el ts i.i).t.2.length - i2.j) (⟨0,(el ts i.i).x,Nat.zero_le _⟩) ⟨rfl,rfl,rfl,rfl,rfl,rfl,rfl,rfl,rfl,trivial⟩ ⟨rfl,trivial⟩ subl_r (fun _ h=>(h.1.1.1.2.1 _ htm).1) (fun i2=>?_)
  simp only [List.cons_append,List.nil_append]
  have hj:=i2.le
  have hs1:=hb1 _ htm i2.j (by omega)
  refine J_sr<|QA (QU rfl rfl rfl)<|JS_nt<|QG ?_
  refine QP rfl (fun hc=>?_) (fun hc=>?_)
  ·
   have hlt2:i2.j<(el ts i.i).t.2.length:=by have:=dec_t hc;omega
   have hlx:i2.j<xs.length:=by omega
   have hxm:=JN hlx
   have hk:=hpw.el hlt2
   have hs2:=hb2 _ htm i2.j (by omega)
   refine QO<|QC<|QG<|QX<|J_sr<|JS_mv rfl<|QA (JK (n:=(el ts i.i).r.n) (i2.j) (fun F h9=>((h9.1.1.1.1.2.1 _ htm).2).1) rfl rfl Qd Qs (by omega))<|QA (JM (n:=(el ts i.i).r.n) ((i2.j)*1) (fun F h9=>((h9.1.1.1.1.2.1 _ htm).2).1) (by omega) rfl Qs (JJ (o:=(el ts i.i).t.2) (by omega)))<|JS_as rfl<|JS_as rfl<|JS_nt<|Xo 8 subl_r mixed (by kernel_rfl) (by kernel_rfl) ?_
   simp only [List.take_succ_cons,List.take_zero,List.drop_succ_cons,List.drop_zero]
   refine QM (QL (vs:=[_,_,_,_]) rfl Qe .here (.here (.here (.here (.here .nil)))) rfl)<|QM (QD rfl)<|QM (QD rfl)<|QM (JK (n:=n2) (i2.j) (fun F h9=>h9.1.1.1.2.1) rfl rfl Wg Qe (by omega))<|QM (Xq (n:=n2) (vs:=[.int .i64 (el xs (i2.j)).1.n.s,.slice (el xs (i2.j)).1.n.q (el xs (i2.j)).1.n.n (el xs (i2.j)).1.n.cap,.int .i64 (el xs (i2.j)).1.d.s,.slice (el xs (i2.j)).1.d.q (el xs (i2.j)).1.d.n (el xs (i2.j)).1.d.cap]) ((i2.j)*4) (fun F h9=>h9.1.1.1.2.1) (by omega) rfl Qe rfl (fun j v hv=>J2 (f:=(fun p=>UR p.1)) (l:=xs) (fun _=>rfl) (by omega) hv))<|QM (QD rfl)<|Qg rfl (fun w F hF h9=>EY hF (h9.1.1.1.2.2 _ hxm) (by omega) (by omega) (by omega)) (fun x34=>Qg rfl (fun w F hF ⟨⟨⟨⟨⟨hP,hX,hXs⟩,⟨h11,h11_⟩⟩,⟨hon,hod⟩⟩,⟨hyn,hyd⟩⟩,⟨h34,h34_⟩⟩=>KK hF ⟨by assumption,by assumption⟩ ⟨by assumption,by assumption⟩ (by omega) (by have:=Wm (el xs i2.j).2 (Qb (el ts i.i).t.2 i2.j).toNat;omega)) (fun x35=>K6<|QQ (vs:=[_,_,_,_]) rfl rfl rfl Qe rfl .here (.here (.here (.here (.here .nil)))) ⟨rfl,rfl,rfl,rfl,trivial⟩<|QE<|Qk<|QC<|QB<|QA (Qp rfl rfl (by omega))<|JS_mv rfl<|QE ?_))
   exact Ql (⟨i2.j+1,x35,hlt2⟩) (by show(el ts i.i).t.2.length - (i2.j+1)<(el ts i.i).t.2.length - i2.j;omega) ⟨rfl,rfl,rfl,rfl,rfl,rfl,rfl,rfl,rfl,rfl,trivial⟩ subl_r (fun F h9=>⟨h9.1.1.1,by show JV F x35 (BC _ (xs.map (·.2)) _ (i2.j+1));rw [Hw,y6 hlx];exact h9.2⟩)
  ·
   have hge2:i2.j=(el ts i.i).t.2.length:=by have:=dec_f hc;omega
   refine Qy ?_
   repeat (first | refine QZ ?_ | refine QV (by rfl) ?_)
   refine Qa<|QC<|QB<|QA (QL (vs:=[_,_,_,_]) rfl Qe (.there (.there .here)) (.here (.here (.here (.here .nil)))) rfl)<|QA (QL (vs:=[_,_,_,_]) rfl Qe .here (.here (.here (.here (.here .nil)))) rfl)<|QH rfl (fun w F hF ⟨⟨⟨⟨hP,hX,hXs⟩,⟨h11,h11_⟩⟩,⟨hon,hod⟩⟩,⟨hyn,hyd⟩⟩=>EZ hF ⟨by assumption,by assumption⟩ ⟨by assumption,by assumption⟩ (by omega) (by omega)) (fun x39=>QQ (vs:=[_,_,_,_]) rfl rfl rfl Qe rfl (.there (.there .here)) (.here (.here (.here (.here .nil)))) ⟨rfl,rfl,rfl,rfl,trivial⟩<|QE<|Qk<|QC<|QB<|QA (Qp rfl rfl (by omega))<|JS_mv rfl<|QE ?_)
   exact Ql (⟨i.i+1,x39,hlt⟩) (by show ts.length - (i.i+1)<ts.length - i.i;omega) ⟨rfl,rfl,rfl,rfl,rfl,rfl,trivial⟩ (.cons _ (.cons _ subl_r)) (fun F h9=>⟨h9.1.1.1,by show JV F x39 (Zu _ (JG (ts.take (i.i+1))));rw [z7 hlt,← hge2];exact h9.2⟩)
 ·
  have hge:i.i=ts.length:=by have:=dec_f hc;omega
  refine Qy ?_
  repeat (first | refine QZ ?_ | refine QV (by rfl) ?_)
  refine Qa<|QC<|J_sr<|QA (QL (vs:=[_,_,_,_]) rfl Qe .here (.here (.here (.here (.here .nil)))) rfl)<|QQ (vs:=[_,_,_,_]) rfl rfl rfl Qe rfl (.there .here) (.here (.here (.here (.here .nil)))) ⟨rfl,rfl,rfl,rfl,trivial⟩<|JS_nt<|QS ?_
  exact QR (i.x) rfl (.Jc (c:=[_,_,_,_]) rfl Qe (.there .here) .nil) (rfl) (fun F h9=>by have h:JV F i.x _:=⟨h9.2.1,h9.2.2⟩;rw [hge,List.take_length] at h;exact h)
end
section
open Go.RowKit Ig
theorem dL {c:Rat} {xs:List Rat} {ks:List Int} (hc:JO c≤2400) (hx:∀ x∈xs,JO x≤2400) (hk:∀ k∈ks,0≤k∧k≤12):∀ i,i≤xs.length→i≤ks.length→JO (BC c xs ks i)≤2400+i*28801:=by
 intro i
 induction i with
 |zero=>intro _ _;simpa [BC] using hc
 |succ i ih =>
  intro h1 h2
  have h3:=ih (by omega) (by omega)
  have h4:=XJ (BC c xs ks i) ((el xs i)^(Qb ks i).toNat)
  have h5:=Wm (el xs i) (Qb ks i).toNat
  have h6:=hx _ (JN (show i<xs.length by omega))
  have h7:0≤Qb ks i∧Qb ks i≤12:=by rw [Xx (show i<ks.length by omega)];exact hk _ (JN (by omega))
  have h8:(Qb ks i).toNat*JO (el xs i)≤12*2400:=Nat.mul_le_mul (by omega) h6
  rw [Hw];omega
theorem jC {xs:List Rat} {B:Nat}:∀ (l:List Tm) (a:Rat),(∀ t∈l,JO (BC t.1 xs t.2 t.2.length)≤B)→JO (l.foldl (fun a t=>a+BC t.1 xs t.2 t.2.length) a)≤JO a+l.length*(B+1)
 |[],a,_=>by simp
 |t::l,a,h=>by
  have h1:=jC l (a+BC t.1 xs t.2 t.2.length) fun t ht=>h t (by simp [ht])
  have h2:=Vc a (BC t.1 xs t.2 t.2.length)
  have h3:=h t (by simp)
  rw [List.foldl_cons,List.length_cons,Nat.add_mul];omega
def ub (p:Pt) (ss:List (List UInt8)):List UInt8×Int :=
 if DB p ss.length=0 then(if Qm (ss.map Ja)=0 then NP (Zu (ss.map Jk) (JA p)) else([],Qm (ss.map Ja))) else([],DB p ss.length)
theorem z6 {w:World} {F:Gs} {a:Yw} {q:Option Addr} {n cap:Nat} {ss:List (List UInt8)} (hF:Fits F w) (hGl:JC F) (hR:Q4 F a.1.q a.1.n 2 (a.2.flatMap KU)) (hA:Zl F a.2) (ht:VB a) (hS:Q4 F q n 1 (ss.map tx)) (hn:ss.length=n) (hsl:∀ s∈ss,s.length≤1000000) (hnb:n≤1000000) :
  Qc Tryz.prog 80 [a.1.v,.slice q n cap] w F (.tuple #[tx (ub (Jp a.2) ss).1,.int .i64 (ub (Jp a.2) ss).2]):=by
 dsimp only [Sr.v]
 refine QT.intro (G:=fun F=>JC F∧Q4 F a.1.q a.1.n 2 (a.2.flatMap KU)∧Zl F a.2∧Q4 F q n 1 (ss.map tx)) Tryz.func80 rfl (by rfl) rfl rfl hF (fun F' hF'=>⟨hGl.le hF',hR.le hF',hA.le hF',hS.le hF'⟩)<|J_sr<|JS_as rfl<|JS_as rfl<|JS_nt<|QG<|J_sr<|JS_mv rfl<|JS_mv rfl<|QA (Qi rfl Hz)<|QH rfl (fun w F hF h9=>A3 hF (h9.1) (h9.2.1) (h9.2.2.1) (ht) (hnb)) (fun _=>JS_as rfl<|JS_nt<|J_sr<|JS_mv rfl<|QA (QU rfl rfl rfl)<|QE<|QC ?_)
 refine QP rfl (fun hc=>?_) (fun hc=>?_)
 ·
  have hc0:=bne_iff_ne.1 hc
  refine J_sr<|JS_mv rfl<|JS_as rfl<|JS_as rfl<|JS_nt<|QS ?_
  exact JX (()) rfl (.tmp rfl (.tmp rfl .nil)) (by unfold ub;rw [hn,if_neg hc0]) (fun F h9=>trivial)
 ·
  have hc0:=bne_eq_false_iff_eq.1 hc
  have hpl:Qm [if decide ((n:Int)=0)=true then 2 else 0,if decide ((n:Int)>25)=true then 5 else 0]=0∧XF (Jp a.2) ((n:Int) - 1)=0:=by
   unfold DB at hc0
   by_cases g:Qm [if decide ((n:Int)=0)=true then 2 else 0,if decide ((n:Int)>25)=true then 5 else 0]=0
   ·rw [if_pos g] at hc0;exact⟨g,hc0⟩
   ·rw [if_neg g] at hc0;exact absurd hc0 g
  have hn1:=UK hpl.1
  have oa:=KE hpl.2
  refine QO<|QC<|QG<|J_sr<|JS_mv rfl<|QH rfl (fun w F hF h9=>FO hF h9.1.1 (h9.1.2.2.2) ⟨hnb,hsl⟩) (fun _=>JS_as rfl<|JS_nt<|J_sr<|JS_mv rfl<|QA (QU rfl rfl rfl)<|QE<|QC ?_)
  refine QP rfl (fun hc=>?_) (fun hc=>?_)
  ·
   have hd0:=bne_iff_ne.1 hc
   refine J_sr<|JS_mv rfl<|JS_as rfl<|JS_as rfl<|JS_nt<|QS ?_
   exact JX (()) rfl (.tmp rfl (.tmp rfl .nil)) (by unfold ub;rw [hn,if_pos hc0,if_neg hd0]) (fun F h9=>trivial)
  ·
   have hd0:=bne_eq_false_iff_eq.1 hc
   have hck:∀ s∈ss,Ja s=0:=fun s hs=>R9 hd0 _ (List.mem_map.2 ⟨s,hs,rfl⟩)
   have hxs:∀ x∈ss.map Jk,JO x≤2400:=fun x hx=>by
    obtain ⟨s,hs,rfl⟩:=List.mem_map.1 hx
    exact XR (hck s hs)
   have hpa:∀ t∈JA (Jp a.2),PW t.2:=oa.pw (by omega)
   have hpk:∀ t∈JA (Jp a.2),∀ k∈t.2,0≤k∧k≤12:=fun t ht=>by
    unfold JA at ht
    obtain ⟨x,hx,rfl⟩:=List.mem_map.1 ht
    exact(Z8 (oa.term x hx)).2.1
   have hwd:∀ t∈JA (Jp a.2),t.2.length=n:=fun t ht=>by have:=oa.wide t ht;omega
   have la:(JA (Jp a.2)).length≤64:=by unfold JA;rw [List.length_map];exact oa.len
   have hsl2:(ss.map Jk).length=n:=by rw [List.length_map];exact hn
   have hvm:∀ t∈JA (Jp a.2),∀ i,i≤n→JO (BC t.1 (ss.map Jk) t.2 i)≤722425:=fun t ht i hi=>by
    have h1:=dL (oa.sz t ht) hxs (hpk t ht) i (by omega) (by rw [hwd t ht];exact hi)
    have h2:i*28801≤25*28801:=Nat.mul_le_mul_right _ (by omega)
    omega
   have hev:∀ l:List Tm,(∀ t∈l,t∈JA (Jp a.2))→l.length≤64→JO (Zu (ss.map Jk) l)≤50000000:=fun l hl h64=>by
    have h1:=jC (xs:=ss.map Jk) (B:=722425) l 0 fun t ht=>hvm t (hl t ht) _ (Nat.le_of_eq (hwd t (hl t ht)))
    have h2:JO (0:Rat)≤1:=by decide
    have h3:l.length*722426≤64*722426:=Nat.mul_le_mul_right _ h64
    unfold Zu;omega
   refine QO<|QC<|J_sr<|JS_mv rfl<|QH rfl (fun w F hF h9=>KV hF h9.1.1.1 (a:=a) h9.1.1.2.1 h9.1.1.2.2.1 ht oa (by omega)) (fun c21=>JH _ (fun w F hF h=>And.intro h.2.2.2.1 h.2.len) (fun h21p=>?_))
   obtain ⟨e21,l21⟩:=h21p
   refine JS_mv rfl<|QH rfl (fun w F hF h9=>kM hF h9.1.1.1.1 h9.1.1.1.2.2.2 hn hnb (fun s hs=>⟨hck s hs,hsl s hs⟩)) (fun c23=>JH _ (fun w F hF h=>h.2.2.2) (fun h23p=>?_))
   obtain ⟨e23,l23,n23⟩:=h23p
   refine QH rfl (fun w F hF ⟨⟨⟨⟨⟨hGl,hR,hA,hS⟩,_⟩,_⟩,h21⟩,h23⟩=>di hF (q:=c21.1.q) (n:=c21.1.n) (cap:=c21.1.cap) (ts:=c21.2) (q2:=c23.1.q) (n2:=c23.1.n) (cap2:=c23.1.cap) (xs:=c23.2) (by rw [e21];exact h21) h23.1 h23.2.1 l23
    (Jz (Q:=fun t=>t.2.length=c23.1.n∧PW t.2) e21 fun t ht=>⟨by rw [n23];exact hwd t ht,hpa t ht⟩) (by omega)
    (Jz (Q:=fun t=>∀ i,i≤c23.1.n→JO (BC t.1 (c23.2.map (·.2)) t.2 i)≤50000000) e21 fun t ht i hi=>by rw [e23];exact Nat.le_trans (hvm t ht i (by omega)) (by decide))
    (Jz (Q:=fun t=>∀ i,i<c23.1.n→(Qb t.2 i).toNat*JO (el c23.2 i).2≤40000000) e21 fun t ht i hi=>by
     have h1:JO (el c23.2 i).2≤2400:=by
      rw [← y6 (by omega),e23];exact hxs _ (JN (by omega))
     have h2:0≤Qb t.2 i∧Qb t.2 i≤12:=by rw [Xx (by rw [hwd t ht];omega)];exact hpk t ht _ (JN (by rw [hwd t ht];omega))
     exact Nat.le_trans (Nat.mul_le_mul (show(Qb t.2 i).toNat≤12 by omega) h1) (by decide))
    (fun i hi=>by
     rw [e23]
     refine hev _ (fun t ht=>?_) (by rw [Yy,List.length_take];omega)
     unfold JG at ht e21
     rw [← e21]
     obtain ⟨y,hy,rfl⟩:=List.mem_map.1 ht
     exact List.mem_map_of_mem (List.mem_of_mem_take hy))) (fun x24=>?_)
   rw [e21,e23]
   refine QH rfl (fun w F hF ⟨⟨⟨⟨⟨⟨hGl,hR,hA,hS⟩,_⟩,_⟩,h21⟩,h23⟩,⟨h24,h24_⟩⟩=>IP hF hGl ⟨by assumption,by assumption⟩ (by have:=hev _ (fun t ht=>ht) la;omega)) (fun _=>QA (QK rfl rfl)<|QA (QK rfl rfl)<|JS_as rfl<|JS_as rfl<|JS_nt<|QS ?_)
   exact JX (()) rfl (.tmp rfl (.tmp rfl .nil)) (by unfold ub;rw [hn,if_pos hc0,if_pos hd0];rfl) (fun F h9=>trivial)
end
section
open Go.RowKit Ig
theorem MX {w:World} {F:Gs} {r:Sr} {l:List Int} (hF:Fits F w) (hR:JL F r l) (hp:PW l):Qc Tryz.prog 195 [r.v] w F (.int .i64 l.sum):=by
 obtain ⟨q,n,c⟩:=r
 have hln:=hR.2.1
 dsimp only [Sr.v] at hln ⊢
 have hl1:=hp.2
 refine QT.intro (G:=fun F=>JL F ⟨q,n,c⟩ l) Tryz.func195 rfl (by rfl) rfl rfl hF (fun F' hF'=>hR.le hF')<|J_sr<|JS_as rfl<|JS_nt<|J_sr<|JS_as rfl<|JS_nt<|QG<|J_sr<|JS_as rfl<|JS_nt<|QX<|ZT (ι:={i:Nat // i≤l.length}) [(0,_)] (fun i=>[(3,.int .i64 ((l.take i.1).sum)),(4,.int .i64 ((i.1:Nat):Int))]) (fun i=>l.length - i.1) (⟨0,Nat.zero_le _⟩) ⟨rfl,trivial⟩ ⟨rfl,rfl,trivial⟩ (fun i=>?_)
 simp only [List.cons_append,List.nil_append]
 have hi:=i.2
 have hs:=hp.sum i.1 hi
 refine QG<|J_sr<|JS_mv rfl<|JS_mv rfl<|QA (Qi rfl Qd)<|QA (QU rfl rfl rfl)<|QE<|QC ?_
 refine QP rfl (fun hc=>?_) (fun hc=>?_)
 ·
  have hlt:i.1<l.length:=by have:=dec_t hc;omega
  have he:=hp.el hlt
  refine QO<|QC<|QG<|QX<|QB<|JS_mv rfl<|JS_mv rfl<|JS_mv rfl<|QA (JK (n:=n) (i.1) (fun F hR=>(hR).1) rfl rfl Qd Qs (by omega))<|QA (JM (n:=n) ((i.1)*1) (fun F hR=>(hR).1) (by omega) rfl Qs (JJ (o:=l) (by omega)))<|QA (Qp rfl rfl (by omega))<|JS_as rfl<|QE<|Qk<|QC<|QB<|JS_mv rfl<|QA (Qp rfl rfl (by omega))<|JS_as rfl<|QE ?_
  exact Ql (⟨i.1+1,hlt⟩) (by show l.length - (i.1+1)<l.length - i.1;omega) ⟨rfl,(congrArg (fun z:Int=>some (Value.int .i64 z)) (BH hlt).symm),rfl,trivial⟩ subl_r (fun F h=>h)
 ·
  have hge:i.1=l.length:=by have:=dec_f hc;omega
  refine Qy ?_
  repeat (first | refine QZ ?_ | refine QV (by rfl) ?_)
  refine Qa<|QC<|J_sr<|JS_mv rfl<|JS_as rfl<|JS_nt<|QS ?_
  exact F_r1 rfl rfl (congrArg (Value.int .i64) (by rw [List.take_of_length_le (by omega)])) (fun F hR=>trivial)
theorem kE {w:World} {F:Gs} {q q2:Option Addr} {n c n2 c2:Nat} {a b:List Int} (hF:Fits F w) (hA:JL F ⟨q,n,c⟩ a) (hB:JL F ⟨q2,n2,c2⟩ b) (pa:PW a) (pb:PW b) (hl:a.length=b.length):Qc Tryz.prog 157 [.slice q n c,.slice q2 n2 c2] w F (.bool (before a b)):=by
 have na:=hA.2.1
 have nb:=hB.2.1
 dsimp only at na nb
 have la:=pa.2
 refine QT.intro (G:=fun F=>JL F ⟨q,n,c⟩ a∧JL F ⟨q2,n2,c2⟩ b) Tryz.func157 rfl (by rfl) rfl rfl hF (fun F' hF'=>⟨hA.le hF',hB.le hF'⟩)<|J_sr<|JS_as rfl<|JS_nt<|QG<|J_sr<|JS_mv rfl<|QH rfl (fun w F hF h9=>MX hF (r:=⟨q,n,c⟩) h9.1 (pa)) (fun _=>JS_mv rfl<|QH rfl (fun w F hF h9=>MX hF (r:=⟨q2,n2,c2⟩) h9.1.2 (pb)) (fun _=>QA (QU rfl rfl rfl)<|QE<|QC ?_))
 refine QP rfl (fun hc=>?_) (fun hc=>?_)
 ·
  have hne:=bne_iff_ne.1 hc
  refine J_sr<|JS_mv rfl<|QH rfl (fun w F hF h9=>MX hF (r:=⟨q,n,c⟩) h9.1.1.1 (pa)) (fun _=>JS_mv rfl<|QH rfl (fun w F hF h9=>MX hF (r:=⟨q2,n2,c2⟩) h9.1.1.1.2 (pb)) (fun _=>QA (QU rfl rfl rfl)<|JS_as rfl<|JS_nt<|QS ?_))
  exact F_r1 rfl rfl (congrArg Value.bool (by unfold before;rw [decide_eq_false hne,Bool.false_and,Bool.or_false])) (fun F h9=>trivial)
 ·
  have hne:=bne_eq_false_iff_eq.1 hc
  refine QO<|QC<|QG<|J_sr<|JS_as rfl<|JS_nt<|QX<|ZT (ι:=kc a b) [(0,_),(1,_)] (fun i=>[(5,.int .i64 ((i.i:Nat):Int))]) (fun i=>a.length - i.i) (⟨0,Nat.zero_le _,rfl⟩) ⟨rfl,rfl,trivial⟩ ⟨rfl,trivial⟩ (fun i=>?_)
  simp only [List.cons_append,List.nil_append]
  have hi:=i.le
  refine QG<|J_sr<|JS_mv rfl<|JS_mv rfl<|QA (Qi rfl Qd)<|QA (QU rfl rfl rfl)<|QE<|QC ?_
  refine QP rfl (fun hc=>?_) (fun hc=>?_)
  ·
   have hlt:i.i<a.length:=by have:=dec_t hc;omega
   refine QO<|QC<|QG<|QX<|QG<|JR subl_r mixed (by kernel_rfl)<|QM (QD rfl)<|QM (QD rfl)<|QM (JK (n:=n) (i.i) (fun F h9=>(h9.1.1.1).1) rfl rfl Qd Qs (by omega))<|QM (JM (n:=n) ((i.i)*1) (fun F h9=>(h9.1.1.1).1) (by omega) rfl Qs (JJ (o:=a) (by omega)))<|QM (QD rfl)<|QM (QD rfl)<|QM (JK (n:=n2) (i.i) (fun F h9=>(h9.1.1.2).1) rfl rfl Qd Qs (by omega))<|QM (JM (n:=n2) ((i.i)*1) (fun F h9=>(h9.1.1.2).1) (by omega) rfl Qs (JJ (o:=b) (by omega)))<|QM (QU rfl rfl rfl)<|Q9<|QC ?_
   refine QP rfl (fun hc=>?_) (fun hc=>?_)
   ·
    have he:=bne_iff_ne.1 hc
    refine QG<|JR subl_r mixed (by kernel_rfl)<|QM (QD rfl)<|QM (QD rfl)<|QM (JK (n:=n) (i.i) (fun F h9=>(h9.1.1.1).1) rfl rfl Qd Qs (by omega))<|QM (JM (n:=n) ((i.i)*1) (fun F h9=>(h9.1.1.1).1) (by omega) rfl Qs (JJ (o:=a) (by omega)))<|QM (QD rfl)<|QM (QD rfl)<|QM (JK (n:=n2) (i.i) (fun F h9=>(h9.1.1.2).1) rfl rfl Qd Qs (by omega))<|QM (JM (n:=n2) ((i.i)*1) (fun F h9=>(h9.1.1.2).1) (by omega) rfl Qs (JJ (o:=b) (by omega)))<|QM (QU rfl rfl rfl)<|QM (QF rfl)<|Q9<|QC<|QS ?_
    repeat (first | refine JE ?_ | refine Q3 ?_)
    exact F_r1 rfl rfl (congrArg Value.bool (by unfold before;rw [i.step hlt (by omega),decide_eq_false he,hne];simp)) (fun F h9=>trivial)
   ·
    have he:=bne_eq_false_iff_eq.1 hc
    refine QO<|Qk<|QC<|QB<|JS_mv rfl<|QA (Qp rfl rfl (by omega))<|JS_as rfl<|QE ?_
    exact Ql (⟨i.i+1,hlt,by rw [i.step hlt (by omega),he];simp⟩) (by show a.length - (i.i+1)<a.length - i.i;omega) ⟨rfl,rfl,rfl,trivial⟩ subl_r (fun F h=>h)
  ·
   have hge:i.i=a.length:=by have:=dec_f hc;omega
   refine Qy ?_
   repeat (first | refine QZ ?_ | refine QV (by rfl) ?_)
   refine Qa<|QC<|J_sr<|JS_as rfl<|JS_nt<|QS ?_
   exact F_r1 rfl rfl (congrArg Value.bool (by unfold before;rw [i.h,hge,List.drop_of_length_le (Nat.le_refl _),hne];simp [Zi])) (fun F h9=>trivial)
end
section
open Go.RowKit Ig
theorem xw {f:List UInt8} {l:List Int} {v:Int} (h1:(l.length:Int)=v+1) (h2:∀ k∈l,0≤k):Zy f l v=if decide (Kd l>12)=true then 4 else Ja f:=by
 unfold Zy
 rw [if_neg (fun h=>h h1),if_neg (jU h2)]
 simp only [Qm]
 by_cases g:decide (Kd l>12)=true
 ·rw [if_pos g,if_pos g,if_neg (by decide)]
 ·rw [if_neg g,if_neg g,if_pos rfl]
  by_cases k:Ja f=0
  ·rw [k];rfl
  ·rw [if_neg k]
theorem CP {w:World} {F:Gs} {f:List UInt8} {q:Option Addr} {n cap:Nat} {l:List Int} {v:Int} (hF:Fits F w) (hGl:JC F) (hR:JL F ⟨q,n,cap⟩ l) (hf:f.length≤9223372036854775807) (hl:l.length≤9223372036854775807) (hv : -1000000≤v∧v≤1000000):Qc Tryz.prog 156 [.agg #[tx f,.slice q n cap],.int .i64 v] w F (.int .i64 (Zy f l v)):=by
 have hln:l.length=n:=hR.2.1
 refine QT.intro (G:=fun F=>JC F∧JL F ⟨q,n,cap⟩ l) Tryz.func156 rfl (by rfl) rfl rfl hF (fun F' hF'=>⟨hGl.le hF',hR.le hF'⟩)<|J_sr<|Q5 rfl (vs:=[_,_]) rfl (fun b2=>JS_as rfl<|JS_nt<|QG<|J_sr<|QA (QI rfl Yp Qv)<|QA (Qo rfl Qv .here (.skip (.here .nil)))<|QA (Qi rfl Qd)<|JS_mv rfl<|QA (Qp rfl rfl (by omega))<|QA (QU rfl rfl rfl)<|QE<|QC ?_)
 refine QP rfl (fun hc=>?_) (fun hc=>?_)
 ·
  have hne:=bne_iff_ne.1 hc
  refine J_sr<|JS_as rfl<|JS_nt<|QS ?_
  exact F_r1 rfl rfl (congrArg (Value.int .i64) (by unfold Zy;rw [if_pos (by rw [hln];exact hne)])) (fun F h9=>trivial)
 ·
  have heq:=bne_eq_false_iff_eq.1 hc
  refine QO<|QC<|J_sr<|JS_as rfl<|JS_nt<|QG<|J_sr<|JS_as rfl<|JS_nt<|QX<|ZT (ι:=pV l) [(2,_)] (fun i=>[(5,.int .i64 (Kd (l.take i.i))),(6,.int .i64 ((i.i:Nat):Int))]) (fun i=>l.length - i.i) (⟨0,Nat.zero_le _,by simp⟩) ⟨rfl,trivial⟩ ⟨rfl,rfl,trivial⟩ (fun i=>?_)
  simp only [List.cons_append,List.nil_append]
  have hi:=i.le
  have hb:=Ht _ i.nn
  rw [List.length_take] at hb
  refine QG<|J_sr<|JS_mv rfl<|QA (QI rfl Yp Qv)<|QA (Qo rfl Qv .here (.skip (.here .nil)))<|QA (Qi rfl Qd)<|QA (QU rfl rfl rfl)<|QE<|QC ?_
  refine QP rfl (fun hc=>?_) (fun hc=>?_)
  ·
   have hlt:i.i<l.length:=by have:=dec_t hc;omega
   refine QO<|QC<|QG<|QX<|QG<|J_sr<|QA (QI rfl Yp Qv)<|QA (Qo rfl Qv .here (.skip (.here .nil)))<|JS_mv rfl<|QA (JK (n:=n) (i.i) (fun F h9=>(h9.2).1) rfl rfl Qd Qs (by omega))<|QA (JM (n:=n) ((i.i)*1) (fun F h9=>(h9.2).1) (by omega) rfl Qs (JJ (o:=l) (by omega)))<|QA (QU rfl rfl rfl)<|QE<|QC ?_
   refine QP rfl (fun hc=>?_) (fun hc=>?_)
   ·
    have hng:=dec_t hc
    refine J_sr<|JS_as rfl<|JS_nt<|QS ?_
    repeat (first | refine JE ?_ | refine Q3 ?_)
    exact F_r1 rfl rfl (congrArg (Value.int .i64) (by unfold Zy;rw [if_neg (by rw [hln];exact fun h=>h heq),if_pos (LH hlt hng)])) (fun F h9=>trivial)
   ·
    have hng:=dec_f hc
    refine QO<|QC<|QB<|JS_mv rfl<|QA (QI rfl Yp Qv)<|QA (Qo rfl Qv .here (.skip (.here .nil)))<|JS_mv rfl<|QA (JK (n:=n) (i.i) (fun F h9=>(h9.2).1) rfl rfl Qd Qs (by omega))<|QA (JM (n:=n) ((i.i)*1) (fun F h9=>(h9.2).1) (by omega) rfl Qs (JJ (o:=l) (by omega)))<|QA (Cd rfl rfl)<|QA (Qp rfl rfl (by omega))<|JS_as rfl<|QE<|Qk<|QC<|QB<|JS_mv rfl<|QA (Qp rfl rfl (by omega))<|JS_as rfl<|QE ?_
    exact Ql (⟨i.i+1,hlt,by intro k hk;rw [X4 hlt] at hk;rcases List.mem_append.1 hk with hk | hk;exact i.nn k hk;rw [List.mem_singleton.1 hk,← Xx hlt];omega⟩) (by show l.length - (i.i+1)<l.length - i.i;omega) ⟨rfl,(congrArg (fun z:Int=>some (Value.int .i64 z)) (UN hlt).symm),rfl,trivial⟩ subl_r (fun F h=>h)
  ·
   have hge:i.i=l.length:=by have:=dec_f hc;omega
   refine Qy ?_
   repeat (first | refine QZ ?_ | refine QV (by rfl) ?_)
   refine Qa<|QC<|QG<|QG<|QB ?_
   rw [hge,List.take_length]
   have hnn:=i.nn
   rw [hge,List.take_length] at hnn
   have hte:=xw (f:=f) (v:=v) (by rw [hln];exact heq) hnn
   refine JS_mv rfl<|QA (QU rfl rfl rfl)<|QE<|QC ?_
   refine QP rfl (fun hc=>?_) (fun hc=>?_)
   ·
    have hbg:=hc
    refine J_sr<|JS_as rfl<|JS_nt<|QS ?_
    exact F_r1 rfl rfl (congrArg (Value.int .i64) (by rw [hte,if_pos hbg])) (fun F h9=>trivial)
   ·
    have hbg:=hc
    refine QO<|QC<|J_sr<|QA (QI rfl WQ Jy)<|QA (Qo rfl Jy .here (.here .nil))<|QH rfl (fun w F hF h9=>Cc hF (hf)) (fun _=>JS_as rfl<|JS_nt<|QS ?_)
    exact F_r1 rfl rfl (congrArg (Value.int .i64) (by rw [hte,hbg];rfl)) (fun F h9=>trivial)
end
section
open Go.RowKit Ig
section
variable {ps:List Vr} {v:Int} {i:Nat}
theorem cn (h:i<ps.length) (he:Zy (el ps i).f (el ps i).k v≠0):VX (Jp ps) v i=Zy (el ps i).f (el ps i).k v:=by
 have e:Qm [Zy (el ps i).f (el ps i).k v,if((el ps i).f==[48])=true then 6 else 0]=Zy (el ps i).f (el ps i).k v:=by
  unfold Qm;rw [if_neg he]
 rw [step_eq h e,if_neg (fun g=>he g.1)]
theorem cm (h:i<ps.length) (he:Zy (el ps i).f (el ps i).k v=0) (hz:((el ps i).f==[48])=true):VX (Jp ps) v i=6:=by
 have e:Qm [Zy (el ps i).f (el ps i).k v,if((el ps i).f==[48])=true then 6 else 0]=6:=by
  rw [he,if_pos hz];rfl
 rw [step_eq h e,if_neg (fun g=>by have:=g.1;omega)]
theorem vD (h:i<ps.length) (he:Zy (el ps i).f (el ps i).k v=0) (hz:((el ps i).f==[48])=false):VX (Jp ps) v i=if 0<i∧before (el ps (i - 1)).k (el ps i).k=false then 11 else 0:=by
 have e:Qm [Zy (el ps i).f (el ps i).k v,if((el ps i).f==[48])=true then 6 else 0]=0:=by
  rw [he,hz];rfl
 rw [step_eq h e]
 have hb:(0≤K8 (el ps (i - 1)).k (el ps i).k)↔before (el ps (i - 1)).k (el ps i).k=false:=by
  rw [Kx,decide_eq_false_iff_not];omega
 by_cases g:0<i∧before (el ps (i - 1)).k (el ps i).k=false
 ·rw [if_pos g,if_pos ⟨rfl,g.1,hb.2 g.2⟩]
 ·rw [if_neg g,if_neg (fun h=>g ⟨h.2.1,hb.1 h.2.2⟩)]
end
theorem CQ {w:World} {F:Gs} {q:Option Addr} {n cap:Nat} {ps:List Vr} {v:Int} (hF:Fits F w) (hGl:JC F) (hR:Q4 F q n 2 (ps.flatMap KU)) (hP:Zl F ps) (hln:ps.length=n) (hf:∀ t∈ps,t.f.length≤9223372036854775807∧t.k.length≤9223372036854775807) (hl:ps.length≤9223372036854775807) (hv:0≤v∧v≤24):Qc Tryz.prog 61 [.slice q n cap,.int .i64 v] w F (.int .i64 (XF (Jp ps) v)):=by
 have hal:(Jp ps).length=n:=by unfold Jp;rw [List.length_map];exact hln
 refine QT.intro (G:=fun F=>JC F∧Q4 F q n 2 (ps.flatMap KU)∧Zl F ps) Tryz.func61 rfl (by rfl) rfl rfl hF (fun F' hF'=>⟨hGl.le hF',hR.le hF',hP.le hF'⟩)<|J_sr<|JS_as rfl<|JS_nt<|QG<|J_sr<|JS_mv rfl<|QA (Qi rfl Xk)<|QA (QU rfl rfl rfl)<|QE<|QC ?_
 refine QP rfl (fun hc=>?_) (fun hc=>?_)
 ·
  have hbig:=hc
  refine J_sr<|JS_as rfl<|JS_nt<|QS ?_
  exact F_r1 rfl rfl (congrArg (Value.int .i64) (by unfold XF;rw [hal,if_pos hbig])) (fun F h9=>trivial)
 ·
  have hbig:=dec_f hc
  refine QO<|QC<|QG<|J_sr<|JS_as rfl<|JS_nt<|QX<|ZT (ι:=LC (Jp ps) v n) [(0,_),(1,_)] (fun i=>[(5,.int .i64 ((i.i:Nat):Int))]) (fun i=>n - i.i) (⟨0,Nat.zero_le _,fun j hj=>absurd hj (Nat.not_lt_zero _)⟩) ⟨rfl,rfl,trivial⟩ ⟨rfl,trivial⟩ (fun i=>?_)
  simp only [List.cons_append,List.nil_append]
  have hi:=i.le
  refine QG<|J_sr<|JS_mv rfl<|JS_mv rfl<|QA (Qi rfl Xk)<|QA (QU rfl rfl rfl)<|QE<|QC ?_
  refine QP rfl (fun hc=>?_) (fun hc=>?_)
  ·
   have hlt:i.i<n:=by have:=dec_t hc;omega
   have htm:el ps i.i∈ps:=JN (by omega)
   refine QO<|QC<|QG<|QX<|J_sr<|JS_mv rfl<|JS_mv rfl<|QA (JK (n:=n) (i.i) (fun F h9=>h9.2.1) rfl rfl Xk XO (by omega))<|QA (Xq (n:=n) (vs:=[tx (el ps (i.i)).f,.slice (el ps (i.i)).r.q (el ps (i.i)).r.n (el ps (i.i)).r.cap]) ((i.i)*2) (fun F h9=>h9.2.1) (by omega) rfl XO rfl (fun j v hv=>J2 (f:=KU) (l:=ps) YP (by omega) hv))<|JS_mv rfl<|QH rfl (fun w F hF h9=>CP hF (h9.1) (f:=(el ps i.i).f) (l:=(el ps i.i).k) (h9.2.2 _ htm) ((hf _ htm).1) ((hf _ htm).2) (by omega)) (fun _=>JS_as rfl<|JS_nt<|QG<|J_sr<|JS_mv rfl<|QA (QU rfl rfl rfl)<|QE<|QC ?_)
   refine QP rfl (fun hc=>?_) (fun hc=>?_)
   ·
    have h23:=bne_iff_ne.1 hc
    refine J_sr<|JS_mv rfl<|JS_as rfl<|JS_nt<|QS ?_
    repeat (first | refine JE ?_ | refine Q3 ?_)
    exact F_r1 rfl rfl (congrArg (Value.int .i64) (HZ hal hbig i hlt (cn (by omega) h23) h23)) (fun F h9=>trivial)
   ·
    have h23:=bne_eq_false_iff_eq.1 hc
    refine QO<|QC<|QG<|J_sr<|JS_mv rfl<|JS_mv rfl<|QA (JK (n:=n) (i.i) (fun F h9=>h9.1.2.1) rfl rfl Xk XO (by omega))<|QA (QI rfl WQ Jy)<|QA (JM (n:=n) ((i.i)*2+0) (fun F h9=>h9.1.2.1) (by omega) rfl Jy (J2 (f:=KU) (l:=ps) YP (by omega) rfl))<|QH rfl (fun w F hF h9=>dU hF ) (fun _=>QE<|QC ?_)
    refine QP rfl (fun hc=>?_) (fun hc=>?_)
    ·
     have h30:=hc
     refine J_sr<|JS_as rfl<|JS_nt<|QS ?_
     repeat (first | refine JE ?_ | refine Q3 ?_)
     exact F_r1 rfl rfl (congrArg (Value.int .i64) (HZ hal hbig i hlt (cm (by omega) h23 h30) (by decide))) (fun F h9=>trivial)
    ·
     have h30:=hc
     refine QO<|QC<|QG<|JR subl_r mixed (by kernel_rfl)<|QM (QD rfl)<|QM (QU rfl rfl rfl)<|QM (QD rfl) ?_
     refine HQ (t:=33) rfl (fun hb33=>?_) (fun hb33=>?_)
     ·
      have hi0:0<i.i:=by have:=dec_t hb33;omega
      have hz0:=(MV (i.z (i.i - 1) (by omega))).1
      rw [Gy (show i.i - 1<ps.length by omega)] at hz0
      have htm0:el ps (i.i - 1)∈ps:=JN (by omega)
      refine Jx rfl rfl<|QM (QD rfl)<|Jx rfl rfl<|QM (QD rfl)<|Jx rfl rfl<|QM (J7 rfl rfl (by omega))<|Jx rfl rfl<|QM (JK (n:=n) ((i.i - 1)) (fun F h9=>h9.1.1.2.1) rfl (congrArg (fun z:Int=>some (Value.int .i64 z)) (by omega)) Xk XO (by omega))<|Jx rfl rfl<|QM (QI rfl Yp Qv)<|Jx rfl rfl<|QM (JM (n:=n) (((i.i - 1))*2+1) (fun F h9=>h9.1.1.2.1) (by omega) rfl Qv (J2 (f:=KU) (l:=ps) YP (by omega) rfl))<|Jx rfl rfl<|QM (QD rfl)<|Jx rfl rfl<|QM (QD rfl)<|Jx rfl rfl<|QM (JK (n:=n) (i.i) (fun F h9=>h9.1.1.2.1) rfl rfl Xk XO (by omega))<|Jx rfl rfl<|QM (QI rfl Yp Qv)<|Jx rfl rfl<|QM (JM (n:=n) ((i.i)*2+1) (fun F h9=>h9.1.1.2.1) (by omega) rfl Qv (J2 (f:=KU) (l:=ps) YP (by omega) rfl))<|Jx rfl rfl<|Qg rfl (fun w F hF h9=>kE hF (a:=(el ps (i.i - 1)).k) (b:=(el ps i.i).k) (h9.1.1.2.2 _ htm0) (h9.1.1.2.2 _ htm) (KZ hz0 hv.2) (KZ h23 hv.2) (by have h1:=(Z8 hz0).1;have h2:=(Z8 h23).1;dsimp only at h1;omega)) (fun _=>Jx rfl rfl ?_)
      refine QM (Z0 rfl)<|QM (Qj rfl rfl rfl)<|Q9<|QC ?_
      refine QP rfl (fun hc=>?_) (fun hc=>?_)
      ·
       refine J_sr<|JS_as rfl<|JS_nt<|QS ?_
       repeat (first | refine JE ?_ | refine Q3 ?_)
       exact F_r1 rfl rfl (congrArg (Value.int .i64) (HZ hal hbig i hlt (by rw [vD (by omega) h23 h30,if_pos ⟨hi0,by simpa using hc⟩]) (by decide))) (fun F h9=>trivial)
      ·
       refine QO<|Qk<|QC<|QB<|JS_mv rfl<|QA (Qp rfl rfl (by omega))<|JS_as rfl<|QE ?_
       exact Ql (⟨i.i+1,hlt,fun j hj=>by
        rcases Nat.lt_or_ge j i.i with g | g
        ·exact i.z j g
        ·rw [show j=i.i from by omega];first | (rw [vD (by omega) h23 h30,if_neg (fun h=>by have:=dec_f hb33;omega)]) | (rw [vD (by omega) h23 h30,if_neg (fun h=>by rw [h.2] at hc;cases hc)])⟩) (by show n - (i.i+1)<n - i.i;omega) ⟨rfl,rfl,rfl,trivial⟩ subl_r (fun F h=>h.1.1.1)
     ·
      refine Jl rfl rfl rfl<|Jl rfl rfl rfl<|Jl rfl rfl rfl<|Jl rfl rfl rfl<|Jl rfl rfl rfl<|Jl rfl rfl rfl<|Jl rfl rfl rfl<|Jl rfl rfl rfl<|Jl rfl rfl rfl<|Jl rfl rfl rfl<|Jl rfl rfl rfl<|Jl rfl rfl rfl<|Jl rfl rfl rfl<|QM (Qh rfl rfl rfl)<|Q9<|QC<|YF rfl<|QO<|Qk<|QC<|QB<|JS_mv rfl<|QA (Qp rfl rfl (by omega))<|JS_as rfl<|QE ?_
      exact Ql (⟨i.i+1,hlt,fun j hj=>by
        rcases Nat.lt_or_ge j i.i with g | g
        ·exact i.z j g
        ·rw [show j=i.i from by omega];first | (rw [vD (by omega) h23 h30,if_neg (fun h=>by have:=dec_f hb33;omega)]) | (rw [vD (by omega) h23 h30,if_neg (fun h=>by rw [h.2] at hc;cases hc)])⟩) (by show n - (i.i+1)<n - i.i;omega) ⟨rfl,rfl,rfl,trivial⟩ subl_r (fun F h=>h.1.1)
  ·
   have hge:n≤i.i:=by have:=dec_f hc;omega
   refine Qy ?_
   repeat (first | refine QZ ?_ | refine QV (by rfl) ?_)
   refine Qa<|QC<|J_sr<|JS_as rfl<|JS_nt<|QS ?_
   exact F_r1 rfl rfl (congrArg (Value.int .i64) (Ao hal hbig i hge)) (fun F h9=>trivial)
theorem Xex {w:World} {F:Gs} {q:Option Addr} {n cap:Nat} {ps:List Vr} {v:Int} (hF:Fits F w) (hGl:JC F) (hR:Q4 F q n 2 (ps.flatMap KU)) (hP:Zl F ps) (hln:ps.length=n) (hf:∀ t∈ps,t.f.length≤1000000∧t.k.length≤1000000) (hl:ps.length≤1000000) (hv:0≤v∧v≤24):Qc Tryz.prog 61 [.slice q n cap,.int .i64 v] w F (.int .i64 (XF (Jp ps) v)) :=
 CQ hF hGl hR hP hln (fun t ht=>⟨Nat.le_trans (hf t ht).1 (by decide),Nat.le_trans (hf t ht).2 (by decide)⟩) (Nat.le_trans hl (by decide)) hv
end
section
open Go.RowKit Ig
theorem E9 (ps:List Vr) (q:List UInt8×List Int→Bool):(Jp ps).any q=ps.any fun t=>q (t.f,t.k):=by unfold Jp;rw [List.any_map];rfl
end
section
open Go.RowKit Ig
def ke (p:Pt) (v a b c:Int):Bool:=if(p.length:Int)>a∨XF p v≠0 then false else !(p.any fun x=>decide (x.2.sum>b)||!(P2 x.1 c))
theorem j0 {w:World} {F:Gs} {q:Option Addr} {n cap:Nat} {ps:List Vr} {v a b c:Int} (hF:Fits F w) (hGl:JC F) (hR:Q4 F q n 2 (ps.flatMap KU)) (hP:Zl F ps) (hln:ps.length=n) (hf:∀ t∈ps,t.f.length≤9223372036854775807∧t.k.length≤9223372036854775807) (hl:ps.length≤9223372036854775807) (hv:0≤v∧v≤24) (hcd:0≤c∧c≤1000000):Qc Tryz.prog 97 [.slice q n cap,.int .i64 v,.int .i64 a,.int .i64 b,.int .i64 c] w F (.bool (ke (Jp ps) v a b c)):=by
 have hal:(Jp ps).length=n:=by rw [VV];exact hln
 refine QT.intro (G:=fun F=>JC F∧Q4 F q n 2 (ps.flatMap KU)∧Zl F ps) Tryz.func97 rfl (by rfl) rfl rfl hF (fun F' hF'=>⟨hGl.le hF',hR.le hF',hP.le hF'⟩)<|J_sr<|JS_as rfl<|JS_nt<|QG<|J_sr<|JS_mv rfl<|QA (Qi rfl Xk)<|JS_mv rfl<|QA (QU rfl rfl rfl)<|JS_mv rfl ?_
 refine Qn (t:=16) rfl (fun hb16=>?_) (fun hb16=>?_)
 ·
  have h16:=dec_t hb16
  refine QN rfl rfl rfl<|QN rfl rfl rfl<|QN rfl rfl rfl<|QN rfl rfl rfl<|QA (Qj rfl rfl rfl)<|JS_nt<|Wu rfl<|J_sr<|JS_as rfl<|JS_nt<|QS ?_
  exact F_r1 rfl rfl (congrArg Value.bool (by unfold ke;rw [hal,if_pos (Or.inl h16)])) (fun F h9=>trivial)
 ·
  have h16:=dec_f hb16
  refine QJ rfl rfl<|JS_mv rfl<|QJ rfl rfl<|JS_mv rfl<|QJ rfl rfl<|QH rfl (fun w F hF h9=>CQ hF (h9.1) (h9.2.1) (h9.2.2) (hln) (hf) (hl) (hv)) (fun _=>QJ rfl rfl<|QA (QU rfl rfl rfl)<|QA (Qh rfl rfl rfl)<|QE<|QC ?_)
  refine QP rfl (fun hc2=>?_) (fun hc2=>?_)
  ·
   have h21:=bne_iff_ne.1 hc2
   refine J_sr<|JS_as rfl<|JS_nt<|QS ?_
   exact F_r1 rfl rfl (congrArg Value.bool (by unfold ke;rw [if_pos (Or.inr h21)])) (fun F h9=>trivial)
  ·
   have h21:=bne_eq_false_iff_eq.1 hc2
   have hok:=KE h21
   have hpw:∀ t∈ps,PW t.k:=fun t ht=>KZ (hok.term (t.f,t.k) (List.mem_map.2 ⟨t,ht,rfl⟩)) hv.2
   refine QO<|QC<|QG<|J_sr<|JS_as rfl<|JS_nt<|QX<|ZT (ι:=Ek ps (fun t=>decide (t.k.sum>b)||!(P2 t.f c))) [(0,_),(3,_),(4,_)] (fun i=>[(11,.int .i64 ((i.i:Nat):Int))]) (fun i=>ps.length - i.i) (Ek.start _ _) ⟨rfl,rfl,rfl,trivial⟩ ⟨rfl,trivial⟩ (fun i=>?_)
   simp only [List.cons_append,List.nil_append]
   have hi:=i.le
   refine QG<|J_sr<|JS_mv rfl<|JS_mv rfl<|QA (Qi rfl Xk)<|QA (QU rfl rfl rfl)<|QE<|QC ?_
   refine QP rfl (fun hc2=>?_) (fun hc2=>?_)
   ·
    have hlt:i.i<ps.length:=by have:=dec_t hc2;omega
    have htm:=JN hlt
    refine QO<|QC<|QG<|QX<|J_sr<|JS_mv rfl<|JS_mv rfl<|QA (JK (n:=n) (i.i) (fun F h9=>h9.1.2.1) rfl rfl Xk XO (by omega))<|QA (QI rfl Yp Qv)<|QA (JM (n:=n) ((i.i)*2+1) (fun F h9=>h9.1.2.1) (by omega) rfl Qv (J2 (f:=KU) (l:=ps) YP (by omega) rfl))<|QH rfl (fun w F hF h9=>MX hF (r:=(el ps i.i).r) (h9.1.2.2 _ htm) (hpw _ htm)) (fun _=>JS_mv rfl<|QA (QU rfl rfl rfl)<|JS_mv rfl ?_)
    refine Qn (t:=36) rfl (fun hb36=>?_) (fun hb36=>?_)
    ·
     refine QN rfl rfl rfl<|QN rfl rfl rfl<|QN rfl rfl rfl<|QN rfl rfl rfl<|QN rfl rfl rfl<|QN rfl rfl rfl<|QN rfl rfl rfl<|QN rfl rfl rfl<|QA (Qj rfl rfl rfl)<|JS_nt<|Wu rfl<|J_sr<|JS_as rfl<|JS_nt<|QS ?_
     repeat (first | refine JE ?_ | refine Q3 ?_)
     exact F_r1 rfl rfl (congrArg Value.bool (by unfold ke;rw [hal,if_neg (fun h=>h.elim h16 (fun g=>g h21)),E9,i.hit hlt (by rw [hb36];rfl)];rfl)) (fun F h9=>trivial)
    ·
     refine QJ rfl rfl<|JS_mv rfl<|QJ rfl rfl<|JS_mv rfl<|QJ rfl rfl<|QA (JK (n:=n) (i.i) (fun F h9=>h9.1.1.2.1) rfl rfl Xk XO (by omega))<|QJ rfl rfl<|QA (QI rfl WQ Jy)<|QJ rfl rfl<|QA (JM (n:=n) ((i.i)*2+0) (fun F h9=>h9.1.1.2.1) (by omega) rfl Jy (J2 (f:=KU) (l:=ps) YP (by omega) rfl))<|QJ rfl rfl<|JS_mv rfl<|QJ rfl rfl<|QH rfl (fun w F hF ⟨⟨⟨hGl,hR,hP⟩,_⟩,_⟩=>uL hF (by have h8:Ja (el ps i.i).f=0:=(Z8 (hok.term ((el ps i.i).f,(el ps i.i).k) (List.mem_map.2 ⟨el ps i.i,htm,rfl⟩))).2.2.2;have h9:=Gd (Jk (el ps i.i).f);rw [← (ZO h8).1] at h9;have h10:=XR h8;omega) (hcd)) (fun _=>QJ rfl rfl<|QA (Z0 rfl)<|QA (Qh rfl rfl rfl)<|QE<|QC ?_)
     refine QP rfl (fun hc2=>?_) (fun hc2=>?_)
     ·
      refine J_sr<|JS_as rfl<|JS_nt<|QS ?_
      repeat (first | refine JE ?_ | refine Q3 ?_)
      exact F_r1 rfl rfl (congrArg Value.bool (by unfold ke;rw [hal,if_neg (fun h=>h.elim h16 (fun g=>g h21)),E9,i.hit hlt (by rw [hc2];simp)];rfl)) (fun F h9=>trivial)
     ·
      refine QO<|Qk<|QC<|QB<|JS_mv rfl<|QA (Qp rfl rfl (by omega))<|JS_as rfl<|QE ?_
      exact Ql (i.next hlt (by rw [hb36,Bool.false_or];exact hc2)) (by show ps.length - (i.i+1)<ps.length - i.i;omega) ⟨rfl,rfl,rfl,rfl,trivial⟩ subl_r (fun F h=>h.1.1)
   ·
    have hge:ps.length≤i.i:=by have:=dec_f hc2;omega
    refine Qy ?_
    repeat (first | refine QZ ?_ | refine QV (by rfl) ?_)
    refine Qa<|QC<|J_sr<|JS_as rfl<|JS_nt<|QS ?_
    exact F_r1 rfl rfl (congrArg Value.bool (by unfold ke;rw [hal,if_neg (fun h=>h.elim h16 (fun g=>g h21)),E9];simp only [i.stop hge];rfl)) (fun F h9=>trivial)
theorem Xf6 {w:World} {F:Gs} {q:Option Addr} {n cap:Nat} {ps:List Vr} {v a b c:Int} (hF:Fits F w) (hGl:JC F) (hR:Q4 F q n 2 (ps.flatMap KU)) (hP:Zl F ps) (hln:ps.length=n) (hf:∀ t∈ps,t.f.length≤1000000∧t.k.length≤1000000) (hl:ps.length≤1000000) (hv:0≤v∧v≤24) (hcd:0≤c∧c≤1000000):Qc Tryz.prog 97 [.slice q n cap,.int .i64 v,.int .i64 a,.int .i64 b,.int .i64 c] w F (.bool (ke (Jp ps) v a b c)) :=
 j0 hF hGl hR hP hln (fun t ht=>⟨Nat.le_trans (hf t ht).1 (by decide),Nat.le_trans (hf t ht).2 (by decide)⟩) (Nat.le_trans hl (by decide)) hv hcd
end
section
open Go.RowKit Ig
theorem Xeq {p:Pt} {n:Nat}:DB p n=if(n:Int)=0 then 2 else if(n:Int)>25 then 5 else XF p ((n:Int) - 1):=by
 unfold DB
 by_cases h0:(n:Int)=0
 ·rw [if_pos h0,decide_eq_true h0,if_pos rfl]
  unfold Qm
  rw [if_neg (by decide:¬ (2:Int)=0),if_neg (by decide:¬ (2:Int)=0)]
 ·rw [if_neg h0,decide_eq_false h0]
  by_cases h1:(n:Int)>25
  ·rw [if_pos h1,decide_eq_true h1];rfl
  ·rw [if_neg h1,decide_eq_false h1];rfl
theorem Xg2 {w:World} {F:Gs} {q:Option Addr} {n cap:Nat} {ps:List Vr} (hF:Fits F w) (hGl:JC F) (hR:Q4 F q n 2 (ps.flatMap KU)) (hP:Zl F ps) (hln:ps.length=n) (hf:∀ t∈ps,t.f.length≤1000000∧t.k.length≤1000000) (hl:ps.length≤1000000):Qc Tryz.prog 103 [.slice q n cap] w F (.bool (ke (Jp ps) 2 4 3 4)):=by
 refine QT.intro (G:=fun F=>JC F∧Q4 F q n 2 (ps.flatMap KU)∧Zl F ps) Tryz.func103 rfl (by rfl) rfl rfl hF (fun F' hF'=>⟨hGl.le hF',hR.le hF',hP.le hF'⟩)<|J_sr<|JS_as rfl<|JS_nt<|J_sr<|JS_mv rfl<|QH rfl (fun w F hF h9=>Xf6 hF (h9.1) (h9.2.1) (h9.2.2) (hln) (hf) (hl) (by decide) (by decide)) (fun _=>JS_as rfl<|JS_nt<|QS ?_)
 exact F_r1 rfl rfl (rfl) (fun F h9=>trivial)
theorem Xfg {w:World} {F:Gs} {q:Option Addr} {n cap:Nat} {ps:List Vr} (hF:Fits F w) (hGl:JC F) (hR:Q4 F q n 2 (ps.flatMap KU)) (hP:Zl F ps) (hln:ps.length=n) (hf:∀ t∈ps,t.f.length≤1000000∧t.k.length≤1000000) (hl:ps.length≤1000000) {k:Nat} (hk:k≤1000000):Qc Tryz.prog 82 [.slice q n cap,.int .i64 (k:Nat)] w F (.int .i64 (DB (Jp ps) k)):=by
 refine QT.intro (G:=fun F=>JC F∧Q4 F q n 2 (ps.flatMap KU)∧Zl F ps) Tryz.func82 rfl (by rfl) rfl rfl hF (fun F' hF'=>⟨hGl.le hF',hR.le hF',hP.le hF'⟩)<|J_sr<|JS_as rfl<|JS_nt<|QG<|J_sr<|JS_mv rfl<|QA (QU rfl rfl rfl)<|QE<|QC ?_
 refine QP rfl (fun hc=>?_) (fun hc=>?_)
 ·
  have h6:=eq_of_beq hc
  refine J_sr<|JS_as rfl<|JS_nt<|QS ?_
  exact F_r1 rfl rfl (congrArg (Value.int .i64) (by rw [Xeq,if_pos h6])) (fun F h9=>trivial)
 ·
  have h6:¬ (k:Int)=0:=fun e=>by rw [e] at hc;cases hc
  refine QO<|QC<|QG<|J_sr<|JS_mv rfl<|QA (QU rfl rfl rfl)<|QE<|QC ?_
  refine QP rfl (fun hc=>?_) (fun hc=>?_)
  ·
   have h8:=dec_t hc
   refine J_sr<|JS_as rfl<|JS_nt<|QS ?_
   exact F_r1 rfl rfl (congrArg (Value.int .i64) (by rw [Xeq,if_neg h6,if_pos h8])) (fun F h9=>trivial)
  ·
   have h8:=dec_f hc
   refine QO<|QC<|J_sr<|JS_mv rfl<|JS_mv rfl<|QA (J7 rfl rfl (by omega))<|QH rfl (fun w F hF h9=>Xex hF (h9.1) (h9.2.1) (h9.2.2) (hln) (hf) (hl) (by omega)) (fun _=>JS_as rfl<|JS_nt<|QS ?_)
   exact F_r1 rfl rfl (congrArg (Value.int .i64) (by rw [Xeq,if_neg h6,if_neg h8])) (fun F h9=>trivial)
end
section
open Go.RowKit Ig
def Xe5 (have_:List UInt8) (e bad:Int) (want:List UInt8):Bool :=
 if bad=0 then(if Wi want=0 then(e==0)&&(have_==want) else(have_==[])&&(e==Wi want)) else(have_==[])&&(e==bad)
theorem Xeu {w:World} {F:Gs} {a b:List UInt8} {e d:Int} (hF:Fits F w) (hl:b.length≤1000000000):Qc Tryz.prog 25 [tx a,.int .i64 e,.int .i64 d,tx b] w F (.bool (Xe5 a e d b)):=by
 refine QT.intro (G:=fun F=>True) Tryz.func25 rfl (by rfl) rfl rfl hF (fun F' hF'=>trivial)<|J_sr<|JS_as rfl<|JS_nt<|QG<|J_sr<|JS_mv rfl<|QA (QU rfl rfl rfl)<|QE<|QC ?_
 refine QP rfl (fun hc=>?_) (fun hc=>?_)
 ·
  have h10:=eq_of_beq hc
  refine QB<|JS_mv rfl<|QH rfl (fun w F hF _=>jx hF (hl)) (fun _=>JS_as rfl<|JS_nt<|QG<|J_sr<|JS_mv rfl<|QA (QU rfl rfl rfl)<|QE<|QC ?_)
  refine QP rfl (fun hc=>?_) (fun hc=>?_)
  ·
   have h14:=bne_iff_ne.1 hc
   refine J_sr<|JS_mv rfl<|QA (KY rfl rfl)<|JS_mv rfl ?_
   refine Qn (t:=17) rfl (fun hb17=>?_) (fun hb17=>?_)
   ·
    refine QJ rfl rfl<|JS_mv rfl<|QJ rfl rfl<|JS_mv rfl<|QJ rfl rfl<|QA (QU rfl rfl rfl)<|QA (Qj rfl rfl rfl)<|JS_as rfl<|JS_nt<|QS ?_
    exact F_r1 rfl rfl (congrArg Value.bool (by unfold Xe5;simp_all)) (fun F h9=>trivial)
   ·
    refine QN rfl rfl rfl<|QN rfl rfl rfl<|QN rfl rfl rfl<|QA (Qh rfl rfl rfl)<|JS_as rfl<|JS_nt<|QS ?_
    exact F_r1 rfl rfl (congrArg Value.bool (by unfold Xe5;simp_all)) (fun F h9=>trivial)
  ·
   have h14:=bne_eq_false_iff_eq.1 hc
   refine QO<|QC<|J_sr<|JS_mv rfl<|QA (QU rfl rfl rfl)<|JS_mv rfl ?_
   refine Qn (t:=24) rfl (fun hb24=>?_) (fun hb24=>?_)
   ·
    refine QJ rfl rfl<|JS_mv rfl<|QJ rfl rfl<|JS_mv rfl<|QJ rfl rfl<|QA (KY rfl rfl)<|QA (Qj rfl rfl rfl)<|JS_as rfl<|JS_nt<|QS ?_
    exact F_r1 rfl rfl (congrArg Value.bool (by unfold Xe5;simp_all)) (fun F h9=>trivial)
   ·
    refine QN rfl rfl rfl<|QN rfl rfl rfl<|QN rfl rfl rfl<|QA (Qh rfl rfl rfl)<|JS_as rfl<|JS_nt<|QS ?_
    exact F_r1 rfl rfl (congrArg Value.bool (by unfold Xe5;simp_all)) (fun F h9=>trivial)
 ·
  have h10:¬ d=0:=fun e=>by rw [e] at hc;cases hc
  refine QO<|QC<|QG<|J_sr<|JS_mv rfl<|QA (QU rfl rfl rfl)<|QE<|QC ?_
  refine QP rfl (fun hc=>?_) (fun hc=>?_)
  ·
   have h14:=bne_iff_ne.1 hc
   refine J_sr<|JS_mv rfl<|QA (KY rfl rfl)<|JS_mv rfl ?_
   refine Qn (t:=17) rfl (fun hb17=>?_) (fun hb17=>?_)
   ·
    refine QJ rfl rfl<|JS_mv rfl<|QJ rfl rfl<|JS_mv rfl<|QJ rfl rfl<|QA (QU rfl rfl rfl)<|QA (Qj rfl rfl rfl)<|JS_as rfl<|JS_nt<|QS ?_
    exact F_r1 rfl rfl (congrArg Value.bool (by unfold Xe5;simp_all)) (fun F _=>trivial)
   ·
    refine QN rfl rfl rfl<|QN rfl rfl rfl<|QN rfl rfl rfl<|QA (Qh rfl rfl rfl)<|JS_as rfl<|JS_nt<|QS ?_
    exact F_r1 rfl rfl (congrArg Value.bool (by unfold Xe5;simp_all)) (fun F _=>trivial)
  ·
   have h14:=bne_eq_false_iff_eq.1 hc
   refine QO<|QC<|J_sr<|JS_mv rfl<|QA (QU rfl rfl rfl)<|JS_mv rfl ?_
   refine Qn (t:=24) rfl (fun hb24=>?_) (fun hb24=>?_)
   ·
    refine QJ rfl rfl<|JS_mv rfl<|QJ rfl rfl<|JS_mv rfl<|QJ rfl rfl<|QA (KY rfl rfl)<|QA (Qj rfl rfl rfl)<|JS_as rfl<|JS_nt<|QS ?_
    exact F_r1 rfl rfl (congrArg Value.bool (by unfold Xe5;simp_all)) (fun F _=>trivial)
   ·
    refine QN rfl rfl rfl<|QN rfl rfl rfl<|QN rfl rfl rfl<|QA (Qh rfl rfl rfl)<|JS_as rfl<|JS_nt<|QS ?_
    exact F_r1 rfl rfl (congrArg Value.bool (by unfold Xe5;simp_all)) (fun F _=>trivial)
end
section
open Go.RowKit Ig
def vv (p:Pt):Bool:=!(p.any fun x=>decide ((x.2.length:Int)>30)||decide ((x.1.length:Int)>20))
def zX (p:Pt):Bool:=if(decide ((p.length:Int)>8)&&decide ((p.length:Int)≤64))||decide ((p.length:Int)>70) then false else vv p
theorem Xfh {w:World} {F:Gs} {q:Option Addr} {n cap:Nat} {ps:List Vr} (hF:Fits F w) (hR:Q4 F q n 2 (ps.flatMap KU)) (hP:Zl F ps) (hln:ps.length=n) (hl:ps.length≤1000000):Qc Tryz.prog 58 [.slice q n cap] w F (.bool (vv (Jp ps))):=by
 refine QT.intro (G:=fun F=>Q4 F q n 2 (ps.flatMap KU)∧Zl F ps) Tryz.func58 rfl (by rfl) rfl rfl hF (fun F' hF'=>⟨hR.le hF',hP.le hF'⟩)<|J_sr<|JS_as rfl<|JS_nt<|QG<|J_sr<|JS_as rfl<|JS_nt<|QX<|ZT (ι:=Ek ps (fun t=>decide ((t.k.length:Int)>30)||decide ((t.f.length:Int)>20))) [(0,_)] (fun i=>[(3,.int .i64 ((i.i:Nat):Int))]) (fun i=>ps.length - i.i) (Ek.start _ _) ⟨rfl,trivial⟩ ⟨rfl,trivial⟩ (fun i=>?_)
 simp only [List.cons_append,List.nil_append]
 have hi:=i.le
 refine QG<|J_sr<|JS_mv rfl<|JS_mv rfl<|QA (Qi rfl Xfp)<|QA (QU rfl rfl rfl)<|QE<|QC ?_
 refine QP rfl (fun hc2=>?_) (fun hc2=>?_)
 ·
  have hlt:i.i<ps.length:=by have:=dec_t hc2;omega
  have htm:=JN hlt
  have hkl:(el ps i.i).k.length=(el ps i.i).r.n:=(hP _ htm).2.1
  refine QO<|QC<|QG<|QX<|J_sr<|JS_mv rfl<|JS_mv rfl<|QA (JK (n:=n) (i.i) (fun F h9=>h9.1) rfl rfl Xfp XO (by omega))<|QA (QI rfl Yp Qv)<|QA (JM (n:=n) ((i.i)*2+1) (fun F h9=>h9.1) (by omega) rfl Qv (J2 (f:=KU) (l:=ps) YP (by omega) rfl))<|QA (Qi rfl Qd)<|QA (QU rfl rfl rfl)<|JS_mv rfl ?_
  refine Qn (t:=17) rfl (fun hb17=>?_) (fun hb17=>?_)
  ·
   refine QN rfl rfl rfl<|QN rfl rfl rfl<|QN rfl rfl rfl<|QN rfl rfl rfl<|QN rfl rfl rfl<|QN rfl rfl rfl<|QN rfl rfl rfl<|QA (Qj rfl rfl rfl)<|JS_nt<|Wu rfl<|J_sr<|JS_as rfl<|JS_nt<|QS ?_
   repeat (first | refine JE ?_ | refine Q3 ?_)
   exact F_r1 rfl rfl (congrArg Value.bool (by unfold vv;rw [E9,i.hit hlt (by rw [hkl,hb17];rfl)];rfl)) (fun F h9=>trivial)
  ·
   refine QJ rfl rfl<|JS_mv rfl<|QJ rfl rfl<|JS_mv rfl<|QJ rfl rfl<|QA (JK (n:=n) (i.i) (fun F h9=>h9.1) rfl rfl Xfp XO (by omega))<|QJ rfl rfl<|QA (QI rfl WQ Jy)<|QJ rfl rfl<|QA (JM (n:=n) ((i.i)*2+0) (fun F h9=>h9.1) (by omega) rfl Jy (J2 (f:=KU) (l:=ps) YP (by omega) rfl))<|QJ rfl rfl<|QA (XA rfl En)<|QJ rfl rfl<|QA (QU rfl rfl rfl)<|QA (Qh rfl rfl rfl)<|QE<|QC ?_
   refine QP rfl (fun hc2=>?_) (fun hc2=>?_)
   ·
    refine J_sr<|JS_as rfl<|JS_nt<|QS ?_
    repeat (first | refine JE ?_ | refine Q3 ?_)
    exact F_r1 rfl rfl (congrArg Value.bool (by unfold vv;rw [E9,i.hit hlt (by rw [hc2];simp)];rfl)) (fun F h9=>trivial)
   ·
    refine QO<|Qk<|QC<|QB<|JS_mv rfl<|QA (Qp rfl rfl (by omega))<|JS_as rfl<|QE ?_
    exact Ql (i.next hlt (by rw [hkl,hb17,Bool.false_or];exact hc2)) (by show ps.length - (i.i+1)<ps.length - i.i;omega) ⟨rfl,rfl,trivial⟩ subl_r (fun F h=>h)
 ·
  have hge:ps.length≤i.i:=by have:=dec_f hc2;omega
  refine Qy ?_
  repeat (first | refine QZ ?_ | refine QV (by rfl) ?_)
  refine Qa<|QC<|J_sr<|JS_as rfl<|JS_nt<|QS ?_
  exact F_r1 rfl rfl (congrArg Value.bool (by unfold vv;rw [E9];simp only [i.stop hge];rfl)) (fun F h9=>trivial)
end
section
open Go.RowKit Ig
section
variable [Dr] [df:Df] {N:Nat} {m:Sl} {S:World→Prop} {ty:TypeId}
theorem j6 {yT:TypeId} {x y:Operand} {a b c d:List UInt8} (hx:ev m x=some (.agg #[tx a,tx b])) (hy:ev m y=some (.agg #[tx c,tx d])):Qt Tryz.prog N m S (.binOp .eql 24 x y yT) ty (.bool (decide (a=c)&&decide (b=d))):=fun ac w _ _ _ _ ha _=>by
 have h1:=equal_span w a b c d
 simp only [execOp,ha.ev hx,ha.ev hy,Sem.run_bind]
 have h2:(eqGuard .eql 24 x y (.agg #[tx a,tx b]) (.agg #[tx c,tx d])).run Tryz.prog w = .ok () w:=by
  simp [eqGuard,RQ]
 rw [h2]
 simp [binOp,h1]
end
end
section
open Go.RowKit Ig
def Ge (w:List UInt8×List UInt8):Int:=Qm [Wi w.1,Wi w.2]
def Fk (have_:List UInt8×List UInt8) (e bad:Int) (want:List UInt8×List UInt8):Bool :=
 if bad=0 then(if Ge want=0 then(e==0)&&(decide (have_.1=want.1)&&decide (have_.2=want.2)) else(have_.1==[])&&((have_.2==[])&&(e==Ge want))) else(have_.1==[])&&((have_.2==[])&&(e==bad))
theorem dt {w:World} {F:Gs} {a b:List UInt8×List UInt8} {e d:Int} (hF:Fits F w) (hl:b.1.length≤1000000∧b.2.length≤1000000):Qc Tryz.prog 26 [.agg #[tx a.1,tx a.2],.int .i64 e,.int .i64 d,.agg #[tx b.1,tx b.2]] w F (.bool (Fk a e d b)):=by
 refine QT.intro (G:=fun F=>True) Tryz.func26 rfl (by rfl) rfl rfl hF (fun F' hF'=>trivial)<|J_sr<|Q5 rfl (vs:=[_,_]) rfl (fun b4=>Q5 rfl (vs:=[_,_]) rfl (fun b7=>JS_as rfl<|JS_nt<|QG<|J_sr<|JS_mv rfl<|QA (QU rfl rfl rfl)<|QE<|QC ?_))
 refine QP rfl (fun hc=>?_) (fun hc=>?_)
 ·
  have h10:=eq_of_beq hc
  refine QB<|QA (QL (vs:=[_,_]) rfl Js .here (.here (.here .nil)) rfl)<|QH rfl (fun w F hF _=>C6 hF (hl)) (fun _=>JS_as rfl<|JS_nt<|QG<|J_sr<|JS_mv rfl<|QA (QU rfl rfl rfl)<|QE<|QC ?_)
  refine QP rfl (fun hc=>?_) (fun hc=>?_)
  ·
   have h14:=bne_iff_ne.1 hc
   refine J_sr<|QA (QI rfl Eb Jy)<|QA (Qo rfl Jy (.there .here) (.here .nil))<|QA (KY rfl rfl)<|JS_mv rfl ?_
   refine Qn (t:=18) rfl (fun hb18=>?_) (fun hb18=>?_)
   ·
    refine QJ rfl rfl<|QA (QI rfl Ea Jy)<|QJ rfl rfl<|QA (Qo rfl Jy (.there .here) (.skip (.here .nil)))<|QJ rfl rfl<|QA (KY rfl rfl)<|QA (Qj rfl rfl rfl)<|JS_mv rfl ?_
    refine Qn (t:=23) rfl (fun hb23=>?_) (fun hb23=>?_)
    ·
     refine QJ rfl rfl<|JS_mv rfl<|QJ rfl rfl<|JS_mv rfl<|QJ rfl rfl<|QA (QU rfl rfl rfl)<|QA (Qj rfl rfl rfl)<|JS_as rfl<|JS_nt<|QS ?_
     exact F_r1 rfl rfl (congrArg Value.bool (by unfold Fk Ge;simp_all)) (fun F h9=>trivial)
    ·
     refine QN rfl rfl rfl<|QN rfl rfl rfl<|QN rfl rfl rfl<|QA (Qh rfl rfl rfl)<|JS_as rfl<|JS_nt<|QS ?_
     exact F_r1 rfl rfl (congrArg Value.bool (by unfold Fk Ge;simp_all)) (fun F h9=>trivial)
   ·
    refine QN rfl rfl rfl<|QN rfl rfl rfl<|QN rfl rfl rfl<|QA (Qh rfl rfl rfl)<|JS_mv rfl<|QN rfl rfl rfl<|QN rfl rfl rfl<|QN rfl rfl rfl<|QA (Qh rfl rfl rfl)<|JS_as rfl<|JS_nt<|QS ?_
    exact F_r1 rfl rfl (congrArg Value.bool (by unfold Fk Ge;simp_all)) (fun F h9=>trivial)
  ·
   have h14:=bne_eq_false_iff_eq.1 hc
   refine QO<|QC<|J_sr<|JS_mv rfl<|QA (QU rfl rfl rfl)<|JS_mv rfl ?_
   refine Qn (t:=30) rfl (fun hb30=>?_) (fun hb30=>?_)
   ·
    refine QJ rfl rfl<|QA (QL (vs:=[_,_]) rfl Js (.there .here) (.here (.here .nil)) rfl)<|QJ rfl rfl<|QA (QL (vs:=[_,_]) rfl Js .here (.here (.here .nil)) rfl)<|QJ rfl rfl<|QA (j6 rfl rfl)<|QA (Qj rfl rfl rfl)<|JS_as rfl<|JS_nt<|QS ?_
    exact F_r1 rfl rfl (congrArg Value.bool (by unfold Fk Ge;simp_all)) (fun F h9=>trivial)
   ·
    refine QN rfl rfl rfl<|QN rfl rfl rfl<|QN rfl rfl rfl<|QA (Qh rfl rfl rfl)<|JS_as rfl<|JS_nt<|QS ?_
    exact F_r1 rfl rfl (congrArg Value.bool (by unfold Fk Ge;simp_all)) (fun F h9=>trivial)
 ·
  have h10:¬ d=0:=fun e=>by rw [e] at hc;cases hc
  refine QO<|QC<|QG<|J_sr<|JS_mv rfl<|QA (QU rfl rfl rfl)<|QE<|QC ?_
  refine QP rfl (fun hc=>?_) (fun hc=>?_)
  ·
   have h14:=bne_iff_ne.1 hc
   refine J_sr<|QA (QI rfl Eb Jy)<|QA (Qo rfl Jy (.there .here) (.here .nil))<|QA (KY rfl rfl)<|JS_mv rfl ?_
   refine Qn (t:=18) rfl (fun hb18=>?_) (fun hb18=>?_)
   ·
    refine QJ rfl rfl<|QA (QI rfl Ea Jy)<|QJ rfl rfl<|QA (Qo rfl Jy (.there .here) (.skip (.here .nil)))<|QJ rfl rfl<|QA (KY rfl rfl)<|QA (Qj rfl rfl rfl)<|JS_mv rfl ?_
    refine Qn (t:=23) rfl (fun hb23=>?_) (fun hb23=>?_)
    ·
     refine QJ rfl rfl<|JS_mv rfl<|QJ rfl rfl<|JS_mv rfl<|QJ rfl rfl<|QA (QU rfl rfl rfl)<|QA (Qj rfl rfl rfl)<|JS_as rfl<|JS_nt<|QS ?_
     exact F_r1 rfl rfl (congrArg Value.bool (by unfold Fk Ge;simp_all)) (fun F _=>trivial)
    ·
     refine QN rfl rfl rfl<|QN rfl rfl rfl<|QN rfl rfl rfl<|QA (Qh rfl rfl rfl)<|JS_as rfl<|JS_nt<|QS ?_
     exact F_r1 rfl rfl (congrArg Value.bool (by unfold Fk Ge;simp_all)) (fun F _=>trivial)
   ·
    refine QN rfl rfl rfl<|QN rfl rfl rfl<|QN rfl rfl rfl<|QA (Qh rfl rfl rfl)<|JS_mv rfl<|QN rfl rfl rfl<|QN rfl rfl rfl<|QN rfl rfl rfl<|QA (Qh rfl rfl rfl)<|JS_as rfl<|JS_nt<|QS ?_
    exact F_r1 rfl rfl (congrArg Value.bool (by unfold Fk Ge;simp_all)) (fun F _=>trivial)
  ·
   have h14:=bne_eq_false_iff_eq.1 hc
   refine QO<|QC<|J_sr<|JS_mv rfl<|QA (QU rfl rfl rfl)<|JS_mv rfl ?_
   refine Qn (t:=30) rfl (fun hb30=>?_) (fun hb30=>?_)
   ·
    refine QJ rfl rfl<|QA (QL (vs:=[_,_]) rfl Js (.there .here) (.here (.here .nil)) rfl)<|QJ rfl rfl<|QA (QL (vs:=[_,_]) rfl Js .here (.here (.here .nil)) rfl)<|QJ rfl rfl<|QA (j6 rfl rfl)<|QA (Qj rfl rfl rfl)<|JS_as rfl<|JS_nt<|QS ?_
    exact F_r1 rfl rfl (congrArg Value.bool (by unfold Fk Ge;simp_all)) (fun F _=>trivial)
   ·
    refine QN rfl rfl rfl<|QN rfl rfl rfl<|QN rfl rfl rfl<|QA (Qh rfl rfl rfl)<|JS_as rfl<|JS_nt<|QS ?_
    exact F_r1 rfl rfl (congrArg Value.bool (by unfold Fk Ge;simp_all)) (fun F _=>trivial)
end
section
open Go.RowKit Ig
theorem gi (z:Int):CT (X0 z)=Lib.decDigits z.natAbs:=by
 have h:=jt ((z:Int):Rat)
 rw [pH,show((z:Int):Rat).num=z from by simp] at h
 unfold CT
 rw [h]
 unfold Nr
 by_cases h0:z<0
 ·rw [if_pos h0,if_pos (by decide),YI h0];rfl
 ·rw [if_neg h0,J3 (by omega),if_neg (by split<;>decide)]
theorem IG (x:Rat):Wi (Jg x)=if XP x=true then 4 else 0:=by
 have hn:decide (600<(CT (numOf (Jg x))).length)=BY x.num:=by
  have e:numOf (Jg x)=X0 x.num:=by
   unfold numOf
   by_cases h:x.den=1
   ·obtain ⟨h1,h2⟩:=RR h
    rw [h2,List.take_length,h1]
   ·exact(Hi h).2.2.1
  rw [e,gi]
  unfold BY
  exact decide_eq_decide.2 (Rx _)
 have hd:decide (600<(UU (Jg x)).length)=BY x.den:=by
  unfold UU BY
  by_cases h:x.den=1
  ·rw [if_pos ((RS x).2 h),h]
   have h1:¬ lim≤(((1:Nat):Int)).natAbs:=by
    exact Nat.not_le.2 (Nat.lt_of_le_of_lt Nat.one_le_two_pow A9)
   rw [decide_eq_false h1]
   simp
  ·rw [if_neg fun e=>h ((RS x).1 e),(Hi h).2.2.2]
   exact decide_eq_decide.2 (Rx _)
 unfold Wi XP
 rw [hn,hd]
theorem Xfu (x:Rat):Xe5 (NP x).1 (NP x).2 0 (Jg x)=true:=by
 unfold Xe5 NP
 rw [if_pos rfl,IG]
 cases XP x<;>simp
theorem Xfy {d:Int} (h:d≠0) (w:List UInt8):Xe5 [] d d w=true:=by
 unfold Xe5;rw [if_neg h];simp
theorem vF (x:Rat×Rat):Fk (V6 x).1 (V6 x).2 0 (Jg x.1,Jg x.2)=true:=by
 unfold Fk V6 Ge
 dsimp only
 rw [if_pos rfl,IG,IG]
 cases XP x.1<;>cases XP x.2<;>simp [Qm]
theorem Xfv {d:Int} (h:d≠0) (w:List UInt8×List UInt8):Fk ([],[]) d d w=true:=by
 unfold Fk;rw [if_neg h];simp
end
section
open Go.RowKit Ig
section
variable {w:World} {F:Gs}
theorem Xf9 {p:List UInt8×Int} {d:Int} {u:List UInt8} (hF:Fits F w) (hd:d≠0) (hp:p=([],d)) (hu:u.length≤1000000000):Qc Tryz.prog 25 [tx p.1,.int .i64 p.2,.int .i64 d,tx u] w F (.bool true):=by
 rw [hp]
 have h:=Xeu (a:=[]) (b:=u) (e:=d) (d:=d) hF hu
 rw [Xfy hd] at h
 exact h
theorem Xf4 {p:List UInt8×Int} {r:Rat} (hF:Fits F w) (hp:p=NP r) (hr:JO r≤100000000):Qc Tryz.prog 25 [tx p.1,.int .i64 p.2,.int .i64 0,tx (Jg r)] w F (.bool true):=by
 rw [hp]
 have h:=Xeu (a:=(NP r).1) (b:=Jg r) (e:=(NP r).2) (d:=0) hF (by have:=Gd r;omega)
 rw [Xfu] at h
 exact h
theorem Xfo {p:(List UInt8×List UInt8)×Int} {d:Int} {u:List UInt8×List UInt8} (hF:Fits F w) (hd:d≠0) (hp:p=(([],[]),d)) (hu:u.1.length≤1000000∧u.2.length≤1000000):Qc Tryz.prog 26 [.agg #[tx p.1.1,tx p.1.2],.int .i64 p.2,.int .i64 d,.agg #[tx u.1,tx u.2]] w F (.bool true):=by
 rw [hp]
 have h:=dt (a:=([],[])) (b:=u) (e:=d) (d:=d) hF hu
 rw [Xfv hd] at h
 exact h
theorem kB {p:(List UInt8×List UInt8)×Int} {r:Rat×Rat} (hF:Fits F w) (hp:p=V6 r) (hr:JO r.1≤400000∧JO r.2≤400000):Qc Tryz.prog 26 [.agg #[tx p.1.1,tx p.1.2],.int .i64 p.2,.int .i64 0,.agg #[tx (Jg r.1),tx (Jg r.2)]] w F (.bool true):=by
 rw [hp]
 have h:=dt (a:=(V6 r).1) (b:=(Jg r.1,Jg r.2)) (e:=(V6 r).2) (d:=0) hF ⟨by have:=Gd r.1;show(Jg r.1).length≤_;omega,by have:=Gd r.2;show(Jg r.2).length≤_;omega⟩
 rw [vF] at h
 exact h
variable {a b:List UInt8}
end
end
section
open Go.RowKit Ig
theorem pO (x y:Rat):DY x y≤0↔x≤y:=by
 unfold DY
 by_cases h:x<y
 ·rw [if_pos h];exact⟨fun _=>Rat.le_of_lt h,fun _=>by decide⟩
 ·rw [if_neg h]
  by_cases e:x=y
  ·rw [if_pos e,e];exact⟨fun _=>Rat.le_refl,fun _=>by decide⟩
  ·rw [if_neg e];refine⟨fun k=>absurd k (by decide),fun k=>absurd (Rat.lt_of_le_of_ne k e) h⟩
theorem Xdj (x y:Rat):DY x y≥0↔y≤x:=by
 unfold DY
 by_cases h:x<y
 ·rw [if_pos h];exact⟨fun k=>absurd k (by decide),fun k=>absurd k (Rat.not_le.2 h)⟩
 ·rw [if_neg h]
  refine⟨fun _=>Rat.not_lt.1 h,fun _=>?_⟩
  split<;>decide
theorem Xe0 (x y:Rat):DY x y<0↔x<y:=by
 rw [← Rat.not_le,← Xdj];omega
theorem Xdi (x y:Rat):DY x y>0↔y<x:=by
 rw [← Rat.not_le,← pO];omega
theorem Xed (x y:Rat):uW x y=if x≤y then x else y:=by
 unfold uW;by_cases h:x≤y
 ·rw [if_pos h,if_pos ((pO x y).2 h)]
 ·rw [if_neg h,if_neg fun k=>h ((pO x y).1 k)]
theorem Xee (x y:Rat):uX x y=if y≤x then x else y:=by
 unfold uX;by_cases h:y≤x
 ·rw [if_pos h,if_pos ((Xdj x y).2 h)]
 ·rw [if_neg h,if_neg fun k=>h ((Xdj x y).1 k)]
theorem Xey (s:Rat×Rat) (x:Rat):Yl s x=(uW s.1 x,uX s.2 x):=by
 unfold Yl
 rw [Xed,Xee]
 congr 1
 ·by_cases h:s.1≤x
  ·rw [if_pos h,if_neg fun k=>absurd ((Xe0 _ _).1 k) (Rat.not_lt.2 h)]
  ·rw [if_neg h,if_pos ((Xe0 _ _).2 (Rat.not_le.1 h))]
 ·by_cases h:x≤s.2
  ·rw [if_pos h,if_neg fun k=>absurd ((Xdi _ _).1 k) (Rat.not_lt.2 h)]
  ·rw [if_neg h,if_pos ((Xdi _ _).2 (Rat.not_le.1 h))]
theorem Xfb (x y z:Rat):uW (uW x y) z=uW x (uW y z):=by
 simp only [Xed];grind
theorem Xfc (x y z:Rat):uX (uX x y) z=uX x (uX y z):=by
 simp only [Xee];grind
theorem Xeo (a b:Rat×Rat):Vn a b=Xfa a b:=by
 unfold Vn Xfa Kz
 simp only [List.foldl_cons,List.foldl_nil,Xey]
 rw [Xfb (uW _ _),Xfc (uX _ _)]
theorem pow_eq (a:Rat×Rat) (n:Int):Hk a n=Xfj a n:=by
 unfold Hk Xfj Kz
 simp only [List.foldl_cons,List.foldl_nil,Xey]
end
section
open Go.RowKit Ig
def Ch (a:List UInt8×List UInt8):Prop:=XD a.1 a.2=0
def vS (a:List UInt8×List UInt8):Rat×Rat:=(Jk a.1,Jk a.2)
theorem Ch.v {a:List UInt8×List UInt8} (h:Ch a):cq (vS a) = .agg #[tx a.1,tx a.2]:=by
 obtain ⟨h1,h2,_⟩:=Yv h
 show Value.agg #[tx (Jg (Jk a.1)),tx (Jg (Jk a.2))]=_
 rw [← (ZO h1).1,← (ZO h2).1]
theorem Ch.sz {a:List UInt8×List UInt8} (h:Ch a):uB 2400 (vS a):=by
 obtain ⟨h1,h2,_⟩:=Yv h
 exact⟨XR h1,XR h2⟩
theorem Ch.le {a:List UInt8×List UInt8} (h:Ch a):(vS a).1≤(vS a).2:=by
 obtain ⟨_,_,h3⟩:=Yv h
 exact(pO _ _).1 (Int.not_lt.1 h3)
theorem CX (u:Nat) {k:Nat} (hk:0<k) (h:(Lib.decDigits u).length≤k):sz (u:Int)≤4*k:=by
 rw [Lib.decDigits_length] at h
 rw [Xv,Int.natAbs_natCast]
 have h1:¬ 10^k≤u:=fun e=>by have:=(Rt (u:=u) hk).2 e;omega
 have h2:10^k≤16^k:=Nat.pow_le_pow_left (by decide) _
 have h3:(16:Nat)^k=2^(4*k):=by rw [Nat.pow_mul]
 rw [← h3]
 exact Nat.lt_of_lt_of_le (Nat.lt_of_not_le h1) h2
theorem yg (z:Int) {k:Nat} (hk:0<k) (h:(X0 z).length≤k):sz z≤4*k:=by
 have e:sz z=sz (z.natAbs:Int):=by unfold sz;simp
 rw [e]
 refine CX _ hk ?_
 rcases Int.lt_or_le z 0 with g | g
 ·rw [YI g,List.length_cons] at h;omega
 ·rwa [J3 g] at h
theorem dO (x:Rat) {k:Nat} (hk:0<k) (h:(Jg x).length≤k):JO x≤4*k:=by
 unfold JO
 unfold Jg at h
 split at h
 ·rename_i hd
  rw [hd]
  exact Nat.max_le.2 ⟨yg _ hk h,Nat.le_trans (show sz ((1:Nat):Int)≤1 by decide) (by omega)⟩
 ·rw [List.length_append,List.length_cons] at h
  exact Nat.max_le.2 ⟨yg _ hk (by omega),CX _ hk (by omega)⟩
theorem Lc {s:List UInt8} (h:Ja s=0) {k:Nat} (hk:0<k) (hl:s.length≤k):JO (Jk s)≤4*k :=
 dO _ hk (by rw [← (ZO h).1];exact hl)
theorem Ch.szk {a:List UInt8×List UInt8} (h:Ch a) {k:Nat} (hk:0<k) (hl:a.1.length≤k∧a.2.length≤k):uB (4*k) (vS a):=by
 obtain ⟨h1,h2,_⟩:=Yv h
 exact⟨Lc h1 hk hl.1,Lc h2 hk hl.2⟩
theorem uB.le {a:Rat×Rat} {k k':Nat} (h:uB k a) (hk:k≤k'):uB k' a:=⟨Nat.le_trans h.1 hk,Nat.le_trans h.2 hk⟩
section
variable {w:World} {F:Gs} {a b:List UInt8×List UInt8}
theorem Xfw {n:Int} (hF:Fits F w) (ha:Ch a) (hl:a.1.length≤100∧a.2.length≤100) (hn:0≤n∧n≤12):Qc Tryz.prog 50 [.agg #[tx a.1,tx a.2],.int .i64 n] w F (cq (Hk (vS a) n)):=by
 have h:=Xew (a:=vS a) (n:=n) hF ((ha.szk (by decide) hl).le (by decide)) hn
 rw [ha.v,← pow_eq] at h;exact h
theorem uD {p:(List UInt8×List UInt8)×Int} {r:Rat×Rat} (hF:Fits F w) (hp:p=V6 r) (hr:JO r.1≤400000∧JO r.2≤400000):Qc Tryz.prog 26 [.agg #[tx p.1.1,tx p.1.2],.int .i64 p.2,.int .i64 0,cq r] w F (.bool true):=kB hF hp hr
def QAS (a:List UInt8×List UInt8) (n:Int):List UInt8×List UInt8:=if Qm [XD a.1 a.2,Eu n]=0 then(Jg (Hk (vS a) n).1,Jg (Hk (vS a) n).2) else([],[])
end
end
section
open Go.RowKit Ig
def LowP (ks:List Int) (n:Nat):Prop:=ks.length=n∧(∀ k∈ks,0≤k)∧ks.sum≤12
theorem sum_nonneg {l:List Int} (h:∀ k∈l,0≤k):0≤l.sum:=by
 induction l with
 |nil=>decide
 |cons a l ih =>
  have h1:=h a (List.mem_cons_self ..)
  have h2:=ih fun k hk=>h k (List.mem_cons_of_mem _ hk)
  rw [List.sum_cons];omega
theorem sum_take_le {l:List Int} (h:∀ k∈l,0≤k) (j:Nat):(l.take j).sum≤l.sum:=by
 have e:l.sum=(l.take j).sum+(l.drop j).sum:=by rw [← List.sum_append,List.take_append_drop]
 have:=sum_nonneg (l:=l.drop j) fun k hk=>h k (List.mem_of_mem_drop hk)
 rw [e];omega
theorem sum_take_succ {l:List Int} {j:Nat} (hj:j<l.length):(l.take (j+1)).sum=(l.take j).sum+Qb l j:=by
 rw [X4 hj,List.sum_append,Xx hj];simp
theorem LowP.Qb {ks:List Int} {n j:Nat} (h:LowP ks n) (hj:j<n):0≤Qb ks j∧Qb ks j≤12:=by
 have hj':j<ks.length:=by rw [h.1];exact hj
 have h1:0≤Ig.Qb ks j:=h.2.1 _ (by rw [X7 hj'];exact List.getElem_mem hj')
 have h2:=sum_take_succ hj'
 have h3:=sum_take_le h.2.1 (j+1)
 have h4:=sum_nonneg (l:=ks.take j) fun k hk=>h.2.1 k (List.mem_of_mem_take hk)
 have:=h.2.2
 exact⟨h1,by omega⟩
theorem valM_b {c:Rat} {xs:List Rat} {ks:List Int} (hc:JO c≤80) (hx:∀ x∈xs,JO x≤80) (hk:LowP ks xs.length):∀ j,j≤xs.length→JO (BC c xs ks j)≤80+80*(ks.take j).sum.toNat+j
 |0,_=>by show JO c≤_;omega
 |j+1,h=>by
  have ih:=valM_b hc hx hk j (by omega)
  rw [Hw]
  have h1:=XJ (BC c xs ks j) (el xs j^(Ig.Qb ks j).toNat)
  have h2:=Wm (el xs j) (Ig.Qb ks j).toNat
  have h3:=hx _ (JN (show j<xs.length by omega))
  have h4:=hk.Qb (show j<xs.length by omega)
  rw [sum_take_succ (show j<ks.length by rw [hk.1];omega)]
  have h5:=sum_nonneg (l:=ks.take j) fun k hk'=>hk.2.1 k (List.mem_of_mem_take hk')
  have h6:((ks.take j).sum+Ig.Qb ks j).toNat=(ks.take j).sum.toNat+(Ig.Qb ks j).toNat:=by omega
  rw [h6]
  have h7:(Ig.Qb ks j).toNat*JO (el xs j)≤(Ig.Qb ks j).toNat*80:=Nat.mul_le_mul_left _ h3
  omega
theorem valM_sz2 {c:Rat} {xs:List Rat} {ks:List Int} (hc:JO c≤80) (hx:∀ x∈xs,JO x≤80) (hk:LowP ks xs.length) (hn:xs.length≤25) {j:Nat} (hj:j≤xs.length):JO (BC c xs ks j)≤1065:=by
 have h1:=valM_b hc hx hk j hj
 have h2:=sum_take_le hk.2.1 j
 have h3:=hk.2.2
 omega
theorem evalP_b {xs:List Rat} (hx:∀ x∈xs,JO x≤80) (hn:xs.length≤25):∀ (l:List Tm),(∀ t∈l,JO t.1≤80∧LowP t.2 xs.length)→∀ a,JO (l.foldl (fun a t=>a+BC t.1 xs t.2 t.2.length) a)≤JO a+1066*l.length
 |[],_,a=>by simp
 |t::l,h,a=>by
  have h0:=h t (List.mem_cons_self ..)
  have ih:=evalP_b hx hn l (fun u hu=>h u (List.mem_cons_of_mem _ hu)) (a+BC t.1 xs t.2 t.2.length)
  have h1:=Vc a (BC t.1 xs t.2 t.2.length)
  have h2:=valM_sz2 h0.1 hx h0.2 hn (show t.2.length≤xs.length by rw [h0.2.1];exact Nat.le_refl _)
  rw [List.foldl_cons,List.length_cons]
  omega
theorem Ox {xs:List Rat} (hx:∀ x∈xs,JO x≤80) (hn:xs.length≤25) {l:List Tm} (h:∀ t∈l,JO t.1≤80∧LowP t.2 xs.length):JO (Zu xs l)≤1+1066*l.length:=by
 have:=evalP_b hx hn l h 0
 have h0:JO 0≤1:=Lb
 unfold Zu
 omega
end
section
open Go.RowKit Ig
def LowT (ps:List Vr) (n:Nat):Prop:=∀ t∈ps,Ja t.f=0∧t.f.length≤20∧LowP t.k n
def LowX (ss:List (List UInt8)):Prop:=∀ s∈ss,Ja s=0∧s.length≤20
theorem LowX.sz {ss:List (List UInt8)} (h:LowX ss):∀ x∈ss.map Jk,JO x≤80:=fun x hx=>by
 obtain ⟨s,hs,rfl⟩:=List.mem_map.1 hx
 exact Lc (h s hs).1 (k:=20) (by decide) (h s hs).2
theorem LowT.tm {ps:List Vr} {n:Nat} (h:LowT ps n):∀ t∈ps.map CS,JO t.1≤80∧LowP t.2 n:=fun t ht=>by
 obtain ⟨s,hs,rfl⟩:=List.mem_map.1 ht
 exact⟨Lc (h s hs).1 (k:=20) (by decide) (h s hs).2.1,(h s hs).2.2⟩
theorem el_mapv {ss:List (List UInt8)} {j:Nat} (h:j<ss.length):el (ss.map Jk) j=Jk (el ss j):=by rw [ZA (by simpa using h),ZA h];simp
theorem evalP_succ {ps:List Vr} {xs:List Rat} {i:Nat} (h:i<ps.length):Zu xs ((ps.take (i+1)).map CS)=Zu xs ((ps.take i).map CS)+BC (Jk (el ps i).f) xs (el ps i).k (el ps i).k.length:=by
 unfold Zu;rw [X4 h,List.map_append,List.foldl_append];rfl
theorem rraiseT_g {w:World} {F:Gs} {s:List UInt8} {n:Int} (hF:Fits F w) (hs:Ja s=0) (hn:0≤n∧n≤12):Qc Tryz.prog 150 [tx s,.int .i64 n] w F (tx (Jg (Jk s^n.toNat))):=by
 have h:=Xep (x:=Jk s) hF (Nat.le_trans (XR hs) (by decide)) hn
 rwa [← (ZO hs).1] at h
theorem revalPoly_g {w:World} {F:Gs} {q q2:Option Addr} {n cap n2 cap2:Nat} {ps:List Vr} {ss:List (List UInt8)} (hF:Fits F w) (hR:Q4 F q n 2 (ps.flatMap KU)) (hP:Zl F ps) (hln:ps.length=n) (hS:Q4 F q2 n2 1 (ss.map tx)) (hsn:ss.length=n2) (ht:LowT ps n2) (hs:LowX ss) (hb:n≤64∧n2≤25) :
  Qc Tryz.prog 83 [.slice q n cap,.slice q2 n2 cap2] w F (tx (Jg (Zu (ss.map Jk) (ps.map CS)))):=by
 have hsx:=hs.sz
 have hxl:(ss.map Jk).length=n2:=by rw [List.length_map];exact hsn
 refine QT.intro (G:=fun F=>Q4 F q n 2 (ps.flatMap KU)∧Zl F ps∧Q4 F q2 n2 1 (ss.map tx)) Tryz.func83 rfl (by rfl) rfl rfl hF (fun F' hF'=>⟨hR.le hF',hP.le hF',hS.le hF'⟩)<|J_sr<|JS_as rfl<|JS_nt<|J_sr<|JS_as rfl<|JS_nt<|QG<|J_sr<|JS_as rfl<|JS_nt<|QX<|ZT (ι:={i:Nat // i≤ps.length}) [(0,_),(1,_)] (fun i=>[(5,tx (Jg (Zu (ss.map Jk) ((ps.take i.1).map CS)))),(6,.int .i64 ((i.1:Nat):Int))]) (fun i=>ps.length - i.1) (⟨0,Nat.zero_le _⟩) ⟨rfl,rfl,trivial⟩ ⟨(by show some (tx [48])=some (tx (Jg 0));rw [show Jg 0=[48] from by decide +kernel]),rfl,trivial⟩ (fun i=>?_)
 simp only [List.cons_append,List.nil_append]
 have hi:=i.2
 refine QG<|J_sr<|JS_mv rfl<|JS_mv rfl<|QA (Qi rfl Xk)<|QA (QU rfl rfl rfl)<|QE<|QC ?_
 refine QP rfl (fun hc=>?_) (fun hc=>?_)
 ·
  have hlt:i.1<ps.length:=by have:=dec_t hc;omega
  have htm:=JN hlt
  obtain ⟨htc,htl2,htl⟩:=ht _ htm
  have hkl:=htl.1
  have hrl:=(hP _ htm).2.1
  have hze:=Ox hsx (by rw [hxl];exact hb.2) (l:=(ps.take i.1).map CS) (fun t hu=>by rw [hxl];exact ht.tm t (List.mem_map.2 (by obtain ⟨s,h1,h2⟩:=List.mem_map.1 hu;exact⟨s,List.mem_of_mem_take h1,h2⟩)))
  rw [List.length_map,List.length_take] at hze
  refine QO<|QC<|QG<|QX<|J_sr<|JS_mv rfl<|JS_mv rfl<|QA (JK (n:=n) (i.1) (fun F h9=>h9.1) rfl rfl Xk XO (by omega))<|QA (QI rfl WQ Jy)<|QA (JM (n:=n) ((i.1)*2+0) (fun F h9=>h9.1) (by omega) rfl Jy (J2 (f:=KU) (l:=ps) YP (by omega) rfl))<|JS_as rfl<|JS_nt<|QG<|J_sr<|JS_as rfl<|JS_nt<|QX<|ZT (ι:={j:Nat // j≤n2}) [(0,_),(1,_),(5,_),(6,_)] (fun i2=>[(7,tx (Jg (BC (Jk (el ps i.1).f) (ss.map Jk) (el ps i.1).k i2.1))),(8,.int .i64 ((i2.1:Nat):Int))]) (fun i2=>n2 - i2.1) (⟨0,Nat.zero_le _⟩) ⟨rfl,rfl,rfl,rfl,trivial⟩ ⟨(by show some (tx (el ps i.1).f)=some (tx (Jg (Jk (el ps i.1).f)));rw [← (ZO htc).1]),rfl,trivial⟩ (fun i2=>?_)
  simp only [List.cons_append,List.nil_append]
  have hj:=i2.2
  have hz2:=valM_sz2 (c:=Jk (el ps i.1).f) (ks:=(el ps i.1).k) (Lc htc (k:=20) (by decide) htl2) hsx (by rw [hxl];exact htl) (by rw [hxl];exact hb.2) (j:=i2.1) (by rw [hxl];exact hj)
  refine QG<|J_sr<|JS_mv rfl<|JS_mv rfl<|QA (Qi rfl Hz)<|QA (QU rfl rfl rfl)<|QE<|QC ?_
  refine QP rfl (fun hc=>?_) (fun hc=>?_)
  ·
   have hlt2:i2.1<n2:=by have:=dec_t hc;omega
   have hsm:=hs _ (JN (show i2.1<ss.length by omega))
   have hdg:=htl.Qb hlt2
   have hzp:=Wm (Jk (el ss i2.1)) (Qb (el ps i.1).k i2.1).toNat
   have hzs:=Lc hsm.1 (k:=20) (by decide) hsm.2
   have hzm:(Qb (el ps i.1).k i2.1).toNat*JO (Jk (el ss i2.1))≤12*80:=Nat.mul_le_mul (by omega) hzs
   refine QO<|QC<|QG<|QX<|JR subl_r mixed (by kernel_rfl)<|QM (QD rfl)<|QM (QD rfl)<|QM (QD rfl)<|QM (JK (n:=n2) (i2.1) (fun F h9=>h9.2.2) rfl rfl Hz Jy (by omega))<|QM (JM (n:=n2) ((i2.1)*1) (fun F h9=>h9.2.2) (by omega) rfl Jy (DR (f:=tx) (l:=ss) (by omega)))<|QM (QD rfl)<|QM (QD rfl)<|QM (JK (n:=n) (i.1) (fun F h9=>h9.1) rfl rfl Xk XO (by omega))<|QM (QI rfl Yp Qv)<|QM (JM (n:=n) ((i.1)*2+1) (fun F h9=>h9.1) (by omega) rfl Qv (J2 (f:=KU) (l:=ps) YP (by omega) rfl))<|QM (QD rfl)<|QM (JK (n:=(el ps (i.1)).r.n) (i2.1) (fun F h9=>((h9.2.1 _ htm)).1) rfl rfl Qd Qs (by omega))<|QM (JM (n:=(el ps (i.1)).r.n) ((i2.1)*1) (fun F h9=>((h9.2.1 _ htm)).1) (by omega) rfl Qs (JJ (o:=(el ps (i.1)).k) (by omega)))<|Qg rfl (fun w F hF h9=>rraiseT_g hF hsm.1 hdg) (fun _=>Qg rfl (fun w F hF h9=>uJ (x:=BC (Jk (el ps i.1).f) (ss.map Jk) (el ps i.1).k i2.1) (y:=Jk (el ss i2.1)^(Qb (el ps i.1).k i2.1).toNat) hF (by omega) (by omega)) (fun _=>QM (QF rfl)<|Q9<|Qk<|QC<|QB ?_))
   refine JS_mv rfl<|QA (Qp rfl rfl (by omega))<|JS_as rfl<|QE ?_
   exact Ql (⟨i2.1+1,hlt2⟩) (by show n2 - (i2.1+1)<n2 - i2.1;omega) ⟨rfl,rfl,rfl,rfl,(by show some (tx (Jg _))=some (tx (Jg (BC _ (ss.map Jk) _ (i2.1+1))));rw [Hw,el_mapv (by omega)]),rfl,trivial⟩ subl_r (fun F h=>h.1.1)
  ·
   have hge2:i2.1=n2:=by have:=dec_f hc;omega
   refine Qy ?_
   repeat (first | refine QZ ?_ | refine QV (by rfl) ?_)
   refine Qa<|QC<|QB<|JS_mv rfl<|JS_mv rfl<|QH rfl (fun w F hF h9=>vQ (x:=Zu (ss.map Jk) ((ps.take i.1).map CS)) (y:=BC (Jk (el ps i.1).f) (ss.map Jk) (el ps i.1).k i2.1) hF (by omega) (by omega)) (fun _=>JS_as rfl<|QE<|Qk<|QC<|QB<|JS_mv rfl<|QA (Qp rfl rfl (by omega))<|JS_as rfl<|QE ?_)
   exact Ql (⟨i.1+1,hlt⟩) (by show ps.length - (i.1+1)<ps.length - i.1;omega) ⟨rfl,rfl,(by show some (tx (Jg _))=some (tx (Jg (Zu (ss.map Jk) ((ps.take (i.1+1)).map CS))));rw [evalP_succ hlt,htl.1];congr 5),rfl,trivial⟩ subl_r (fun F h=>h.1)
 ·
  have hge:i.1=ps.length:=by have:=dec_f hc;omega
  refine Qy ?_
  repeat (first | refine QZ ?_ | refine QV (by rfl) ?_)
  refine Qa<|QC<|J_sr<|JS_mv rfl<|JS_as rfl<|JS_nt<|QS ?_
  exact F_r1 rfl rfl (by rw [hge,List.take_length]) (fun F h9=>trivial)
end
section
open Go.RowKit Ig
def Xem (ss:List (List UInt8×List UInt8)):Int:=Qm (ss.map fun p=>XD p.1 p.2)
end
section
open Go.RowKit Ig
def refS (c:Rat×Rat) (bs:List (Rat×Rat)) (ks:List Int) (i:Nat):Rat×Rat:=(List.range i).foldl (fun a j=>Vn a (Hk (el bs j) (Qb ks j))) c
theorem refS_step (c:Rat×Rat) (bs:List (Rat×Rat)) (ks:List Int) (i:Nat):refS c bs ks (i+1)=Vn (refS c bs ks i) (Hk (el bs i) (Qb ks i)):=by
 unfold refS;rw [List.range_succ,List.foldl_append];rfl
theorem valS_step2 (c:Rat×Rat) (bs:List (Rat×Rat)) (ks:List Int) (i:Nat):Hd c bs ks (i+1)=if Qb ks i>0 then Vn (Hd c bs ks i) (Hk (el bs i) (Qb ks i)) else Hd c bs ks i:=by
 unfold Hd;rw [List.range_succ,List.foldl_append];rfl
theorem minQ_le (x y:Rat):uW x y≤x∧uW x y≤y:=by rw [Xed];grind
theorem maxQ_le (x y:Rat):x≤uX x y∧y≤uX x y:=by rw [Xee];grind
theorem mulS_le (a b:Rat×Rat):(Xfa a b).1≤(Xfa a b).2:=by
 unfold Xfa
 exact Rat.le_trans (minQ_le _ _).1 (Rat.le_trans (minQ_le _ _).1 (Rat.le_trans (maxQ_le _ _).1 (maxQ_le _ _).1))
theorem pow_zeroQ (b:Rat×Rat):Hk b 0=(1,1):=by
 rw [pow_eq]
 have h1:b.1^(0:Int).toNat=1:=by show b.1^0=1;exact Rat.pow_zero _
 have h2:b.2^(0:Int).toNat=1:=by show b.2^0=1;exact Rat.pow_zero _
 unfold Xfj
 rw [h1,h2,Xed,Xee]
 simp
theorem times_one {a:Rat×Rat} (h:a.1≤a.2):Vn a (1,1)=a:=by
 rw [Xeo]
 unfold Xfa
 simp only [Rat.mul_one,Xed,Xee]
 obtain ⟨x,y⟩:=a
 simp only at h
 simp only [Rat.le_refl,if_true]
 by_cases k:y≤x
 ·have:x=y:=Rat.le_antisymm h k
  subst this;simp
 ·rw [if_pos h,if_neg k]
theorem refS_eq {c:Rat} {bs:List (Rat×Rat)} {ks:List Int} (hk:∀ i,0≤Qb ks i):∀ i,refS (c,c) bs ks i=Hd (c,c) bs ks i∧(refS (c,c) bs ks i).1≤(refS (c,c) bs ks i).2
 |0=>⟨rfl,Rat.le_refl⟩
 |i+1=>by
  obtain ⟨h1,h2⟩:=refS_eq hk i
  rw [refS_step,valS_step2,← h1]
  by_cases g:Qb ks i>0
  ·rw [if_pos g];exact⟨rfl,by rw [Xeo];exact mulS_le _ _⟩
  ·have:Qb ks i=0:=by have:=hk i;omega
   rw [if_neg g,this,pow_zeroQ,times_one h2];exact⟨rfl,h2⟩
theorem times_szs {a b:Rat×Rat} {m n:Nat} (ha:uB m a) (hb:uB n b):uB (m+n) (Vn a b):=by
 have key:∀ x y:Rat,JO x≤m→JO y≤n→JO (x*y)≤m+n:=fun x y hx hy=>Nat.le_trans (XJ x y) (Nat.add_le_add hx hy)
 refine EJ (k:=m+n) (key _ _ ha.1 hb.1) fun x hx=>?_
 simp only [List.mem_cons,List.not_mem_nil,or_false] at hx
 rcases hx with rfl | rfl | rfl
 ·exact key _ _ ha.1 hb.2
 ·exact key _ _ ha.2 hb.1
 ·exact key _ _ ha.2 hb.2
theorem powQ_szt {a:Rat×Rat} {m:Nat} (n:Int) (ha:uB m a):uB (n.toNat*m+1) (Hk a n):=by
 have key:∀ x:Rat,JO x≤m→JO (x^n.toNat)≤n.toNat*m+1:=fun x hx=>Nat.le_trans (Wm x _) (Nat.add_le_add_right (Nat.mul_le_mul_left _ hx) _)
 have h:=EJ (k:=n.toNat*m+1) (r:=a.1^n.toNat) (l:=[a.2^n.toNat]) (key _ ha.1) fun x hx=>by
  obtain rfl:=List.mem_singleton.1 hx;exact key _ ha.2
 unfold Hk
 refine⟨?_,h.2⟩
 dsimp only
 split
 ·exact Nat.le_trans Lb (by omega)
 ·exact h.1
theorem refS_b {c:Rat} {bs:List (Rat×Rat)} {ks:List Int} (hc:JO c≤80) (hx:∀ x∈bs,uB 80 x) (hk:LowP ks bs.length):∀ j,j≤bs.length→uB (80+80*(ks.take j).sum.toNat+j) (refS (c,c) bs ks j)
 |0,_=>⟨by show JO c≤_;omega,by show JO c≤_;omega⟩
 |j+1,h=>by
  have ih:=refS_b hc hx hk j (by omega)
  rw [refS_step]
  have h3:=hx _ (JN (show j<bs.length by omega))
  have h4:=hk.Qb (show j<bs.length by omega)
  have h7:=times_szs ih (powQ_szt (Qb ks j) h3)
  rw [sum_take_succ (show j<ks.length by rw [hk.1];omega)]
  have h5:=sum_nonneg (l:=ks.take j) fun k hk'=>hk.2.1 k (List.mem_of_mem_take hk')
  have h6:((ks.take j).sum+Qb ks j).toNat=(ks.take j).sum.toNat+(Qb ks j).toNat:=by omega
  rw [h6]
  exact h7.le (by omega)
theorem refS_sz {c:Rat} {bs:List (Rat×Rat)} {ks:List Int} (hc:JO c≤80) (hx:∀ x∈bs,uB 80 x) (hk:LowP ks bs.length) (hn:bs.length≤25) {j:Nat} (hj:j≤bs.length):uB 1065 (refS (c,c) bs ks j):=by
 have h2:=sum_take_le hk.2.1 j
 have h3:=hk.2.2
 exact(refS_b hc hx hk j hj).le (by omega)
theorem dig_nonneg {ks:List Int} (h:∀ k∈ks,0≤k) (i:Nat):0≤Qb ks i:=by
 rcases Nat.lt_or_ge i ks.length with g | g
 ·exact h _ (by rw [X7 g];exact List.getElem_mem g)
 ·unfold Qb;rw [dif_neg (by omega)];exact Int.le_refl _
def refE (bs:List (Rat×Rat)) (l:List Tm):Rat×Rat:=l.foldl (fun a t=>Xes a (refS (t.1,t.1) bs t.2 t.2.length)) (0,0)
theorem refE_eq {bs:List (Rat×Rat)} {l:List Tm} (h:∀ t∈l,∀ k∈t.2,0≤k):refE bs l=ED bs l:=by
 unfold refE ED
 have:∀ (l:List Tm) (a:Rat×Rat),(∀ t∈l,∀ k∈t.2,0≤k)→l.foldl (fun a t=>Xes a (refS (t.1,t.1) bs t.2 t.2.length)) a=l.foldl (fun a t=>CD a (Hd (t.1,t.1) bs t.2 t.2.length)) a:=by
  intro l
  induction l with
  |nil=>exact fun _ _=>rfl
  |cons t l ih =>
   intro a h
   rw [List.foldl_cons,List.foldl_cons,(refS_eq (dig_nonneg (h t (List.mem_cons_self ..))) _).1]
   exact ih _ fun u hu=>h u (List.mem_cons_of_mem _ hu)
 exact this l (0,0) h
theorem refE_b {bs:List (Rat×Rat)} (hx:∀ x∈bs,uB 80 x) (hn:bs.length≤25):∀ (l:List Tm),(∀ t∈l,JO t.1≤80∧LowP t.2 bs.length)→∀ a m,uB m a→uB (m+1066*l.length) (l.foldl (fun a t=>Xes a (refS (t.1,t.1) bs t.2 t.2.length)) a)
 |[],_,a,m,h=>by simpa using h
 |t::l,h,a,m,ha=>by
  have h0:=h t (List.mem_cons_self ..)
  have h2:=refS_sz h0.1 hx h0.2 hn (show t.2.length≤bs.length by rw [h0.2.1];exact Nat.le_refl _)
  have h1:uB (m+1066) (Xes a (refS (t.1,t.1) bs t.2 t.2.length)):=⟨Nat.le_trans (Vc _ _) (by have:=ha.1;have:=h2.1;omega),Nat.le_trans (Vc _ _) (by have:=ha.2;have:=h2.2;omega)⟩
  have ih:=refE_b hx hn l (fun u hu=>h u (List.mem_cons_of_mem _ hu)) _ _ h1
  rw [List.foldl_cons,List.length_cons]
  exact ih.le (by omega)
theorem refE_sz {bs:List (Rat×Rat)} (hx:∀ x∈bs,uB 80 x) (hn:bs.length≤25) {l:List Tm} (h:∀ t∈l,JO t.1≤80∧LowP t.2 bs.length):uB (1+1066*l.length) (refE bs l) :=
 refE_b hx hn l h (0,0) 1 ⟨Lb,Lb⟩
theorem refE_succ {ps:List Vr} {bs:List (Rat×Rat)} {i:Nat} (h:i<ps.length):refE bs ((ps.take (i+1)).map CS)=Xes (refE bs ((ps.take i).map CS)) (refS (Jk (el ps i).f,Jk (el ps i).f) bs (el ps i).k (el ps i).k.length):=by
 unfold refE;rw [X4 h,List.map_append,List.foldl_append];rfl
def LowB (ss:List (List UInt8×List UInt8)):Prop:=∀ s∈ss,Ch s∧s.1.length≤20∧s.2.length≤20
theorem LowB.sz {ss:List (List UInt8×List UInt8)} (h:LowB ss):∀ x∈ss.map vS,uB 80 x:=fun x hx=>by
 obtain ⟨s,hs,rfl⟩:=List.mem_map.1 hx
 exact(h s hs).1.szk (k:=20) (by decide) (h s hs).2
theorem el_mapS {ss:List (List UInt8×List UInt8)} {j:Nat} (h:j<ss.length):el (ss.map vS) j=vS (el ss j):=by rw [ZA (by simpa using h),ZA h];simp
end
section
open Go.RowKit Ig
theorem rpowSx_g {w:World} {F:Gs} {a:List UInt8×List UInt8} {n:Int} (hF:Fits F w) (ha:Ch a) (hl:a.1.length≤20∧a.2.length≤20) (hn:0≤n∧n≤12):Qc Tryz.prog 50 [.agg #[tx a.1,tx a.2],.int .i64 n] w F (cq (Hk (vS a) n)) :=
 Xfw hF ha ⟨by omega,by omega⟩ hn
theorem rmulSx_g {w:World} {F:Gs} {a b:Rat×Rat} (hF:Fits F w) (ha:uB 15000 a) (hb:uB 15000 b):Qc Tryz.prog 54 [cq a,cq b] w F (cq (Vn a b)):=by
 have h:=Xf2 hF ha hb
 rw [← Xeo] at h;exact h
theorem raddSx_g {w:World} {F:Gs} {a b:Rat×Rat} (hF:Fits F w) (ha:uB 30000 a) (hb:uB 30000 b):Qc Tryz.prog 52 [cq a,cq b] w F (cq (Xes a b)):=Xef hF ha hb
theorem revalSpans_g {w:World} {F:Gs} {q q2:Option Addr} {n cap n2 cap2:Nat} {ps:List Vr} {ss:List (List UInt8×List UInt8)} (hF:Fits F w) (hR:Q4 F q n 2 (ps.flatMap KU)) (hP:Zl F ps) (hln:ps.length=n) (hS:Q4 F q2 n2 2 (ss.flatMap spC)) (hsn:ss.length=n2) (ht:LowT ps n2) (hs:LowB ss) (hb:n≤8∧n2≤25) :
  Qc Tryz.prog 84 [.slice q n cap,.slice q2 n2 cap2] w F (cq (refE (ss.map vS) (ps.map CS))):=by
 have hsx:=hs.sz
 have hxl:(ss.map vS).length=n2:=by rw [List.length_map];exact hsn
 refine QT.intro (G:=fun F=>Q4 F q n 2 (ps.flatMap KU)∧Zl F ps∧Q4 F q2 n2 2 (ss.flatMap spC)) Tryz.func84 rfl (by rfl) rfl rfl hF (fun F' hF'=>⟨hR.le hF',hP.le hF',hS.le hF'⟩)<|J_sr<|Qf Yk (fun b4=>JS_nt<|J_sr<|QH rfl (fun w F hF h9=>Xdq hF) (fun _=>Qf Yk (fun b5=>QQ (vs:=[_,_]) rfl rfl rfl Js rfl .here (.here (.here .nil)) ⟨rfl,rfl,trivial⟩<|JS_nt<|QG<|J_sr<|JS_as rfl<|JS_nt<|QX<|Jw (ι:={i:Nat // i≤ps.length}) [(0,_),(1,_),(4,_),(5,_)] (fun i=>[(6,.int .i64 ((i.1:Nat):Int))]) (fun i=>[(b5,.cells [tx (Jg (refE (ss.map vS) ((ps.take i.1).map CS)).1),tx (Jg (refE (ss.map vS) ((ps.take i.1).map CS)).2)].toArray 24 (0,0)),(b4,.cells [tx [],tx []].toArray 24 (0,0))]) (fun i F=>True) (fun i=>ps.length - i.1) (⟨0,Nat.zero_le _⟩) ⟨rfl,rfl,rfl,rfl,trivial⟩ ⟨rfl,trivial⟩ ((by show List.Sublist (α:=Nat×Obj) [(b5,.cells [tx (Jg ((0,0):Rat×Rat).1),tx (Jg ((0,0):Rat×Rat).2)].toArray 24 (0,0)),(b4,.cells [tx [],tx []].toArray 24 (0,0))] _;rw [show Jg ((0,0):Rat×Rat).1=[48] from by decide +kernel];exact List.Sublist.refl _)) (fun _ _=>trivial) (fun i=>?_))))
 simp only [List.cons_append,List.nil_append]
 have hi:=i.2
 refine QG<|J_sr<|JS_mv rfl<|JS_mv rfl<|QA (Qi rfl Xk)<|QA (QU rfl rfl rfl)<|QE<|QC ?_
 refine QP rfl (fun hc=>?_) (fun hc=>?_)
 ·
  have hlt:i.1<ps.length:=by have:=dec_t hc;omega
  have htm:=JN hlt
  obtain ⟨htc,htl2,htl⟩:=ht _ htm
  have hkl:=htl.1
  have hrl:=(hP _ htm).2.1
  have hze:=refE_sz hsx (by rw [hxl];exact hb.2) (l:=(ps.take i.1).map CS) (fun t hu=>by rw [hxl];exact ht.tm t (List.mem_map.2 (by obtain ⟨s,h1,h2⟩:=List.mem_map.1 hu;exact⟨s,List.mem_of_mem_take h1,h2⟩)))
  rw [List.length_map,List.length_take] at hze
  refine QO<|QC<|QG<|QX<|J_sr<|JS_mv rfl<|JS_mv rfl<|QA (JK (n:=n) (i.1) (fun F h9=>h9.1.1.1) rfl rfl Xk XO (by omega))<|QA (QI rfl WQ Jy)<|QA (JM (n:=n) ((i.1)*2+0) (fun F h9=>h9.1.1.1) (by omega) rfl Jy (J2 (f:=KU) (l:=ps) YP (by omega) rfl))<|QH rfl (fun w F hF h9=>Xdq hF) (fun _=>Qf Yk (fun b7=>QQ (vs:=[_,_]) rfl rfl rfl Js rfl .here (.here (.here .nil)) ⟨rfl,rfl,trivial⟩<|JS_nt<|QG<|J_sr<|JS_as rfl<|JS_nt<|QX<|Jw (ι:={j:Nat // j≤n2}) [(0,_),(1,_),(4,_),(5,_),(6,_),(7,_)] (fun i2=>[(8,.int .i64 ((i2.1:Nat):Int))]) (fun i2=>[(b7,.cells [tx (Jg (refS (Jk (el ps i.1).f,Jk (el ps i.1).f) (ss.map vS) (el ps i.1).k i2.1).1),tx (Jg (refS (Jk (el ps i.1).f,Jk (el ps i.1).f) (ss.map vS) (el ps i.1).k i2.1).2)].toArray 24 (0,0)),(b5,.cells [tx (Jg (refE (ss.map vS) ((ps.take i.1).map CS)).1),tx (Jg (refE (ss.map vS) ((ps.take i.1).map CS)).2)].toArray 24 (0,0)),(b4,.cells [tx [],tx []].toArray 24 (0,0))]) (fun i2 F=>True) (fun i2=>n2 - i2.1) (⟨0,Nat.zero_le _⟩) ⟨rfl,rfl,rfl,rfl,rfl,rfl,trivial⟩ ⟨rfl,trivial⟩ ((by show List.Sublist (α:=Nat×Obj) [(b7,.cells [tx (Jg ((Jk (el ps i.1).f,Jk (el ps i.1).f):Rat×Rat).1),tx (Jg ((Jk (el ps i.1).f,Jk (el ps i.1).f):Rat×Rat).2)].toArray 24 (0,0)),(b5,.cells [tx (Jg (refE (ss.map vS) ((ps.take i.1).map CS)).1),tx (Jg (refE (ss.map vS) ((ps.take i.1).map CS)).2)].toArray 24 (0,0)),(b4,.cells [tx [],tx []].toArray 24 (0,0))] _;dsimp only;rw [← (ZO htc).1];exact List.Sublist.refl _)) (fun _ _=>trivial) (fun i2=>?_)))
  simp only [List.cons_append,List.nil_append]
  have hj:=i2.2
  have hz2:=refS_sz (c:=Jk (el ps i.1).f) (ks:=(el ps i.1).k) (Lc htc (k:=20) (by decide) htl2) hsx (by rw [hxl];exact htl) (by rw [hxl];exact hb.2) (j:=i2.1) (by rw [hxl];exact hj)
  refine QG<|J_sr<|JS_mv rfl<|JS_mv rfl<|QA (Qi rfl Sv)<|QA (QU rfl rfl rfl)<|QE<|QC ?_
  refine QP rfl (fun hc=>?_) (fun hc=>?_)
  ·
   have hlt2:i2.1<n2:=by have:=dec_t hc;omega
   have hsm:=hs _ (JN (show i2.1<ss.length by omega))
   have hdg:=htl.Qb hlt2
   have hpz:=powQ_szt (Qb (el ps i.1).k i2.1) (hsm.1.szk (k:=20) (by decide) hsm.2)
   have hpm:(Qb (el ps i.1).k i2.1).toNat*(4*20)≤12*80:=Nat.mul_le_mul (by omega) (by decide)
   refine QO<|QC<|QG<|QX<|Xo 15 subl_r mixed (by kernel_rfl) (by kernel_rfl) ?_
   simp only [List.take_succ_cons,List.take_zero,List.drop_succ_cons,List.drop_zero]
   refine QM (QL (vs:=[_,_]) rfl Js .here (.here (.here .nil)) rfl)<|QM (QD rfl)<|QM (QD rfl)<|QM (JK (n:=n2) (i2.1) (fun F h9=>h9.1.1.1.1.2.2) rfl rfl Sv Js (by omega))<|QM (Xq (n:=n2) (vs:=[tx (el ss (i2.1)).1,tx (el ss (i2.1)).2]) ((i2.1)*2) (fun F h9=>h9.1.1.1.1.2.2) (by omega) rfl Js rfl (fun j v hv=>J2 (f:=spC) (l:=ss) Xde (by omega) hv))<|QM (QD rfl)<|QM (QD rfl)<|QM (JK (n:=n) (i.1) (fun F h9=>h9.1.1.1.1.1) rfl rfl Xk XO (by omega))<|QM (QI rfl Yp Qv)<|QM (JM (n:=n) ((i.1)*2+1) (fun F h9=>h9.1.1.1.1.1) (by omega) rfl Qv (J2 (f:=KU) (l:=ps) YP (by omega) rfl))<|QM (QD rfl)<|QM (JK (n:=(el ps (i.1)).r.n) (i2.1) (fun F h9=>((h9.1.1.1.1.2.1 _ htm)).1) rfl rfl Qd Qs (by omega))<|QM (JM (n:=(el ps (i.1)).r.n) ((i2.1)*1) (fun F h9=>((h9.1.1.1.1.2.1 _ htm)).1) (by omega) rfl Qs (JJ (o:=(el ps (i.1)).k) (by omega)))<|Qg rfl (fun w F hF h9=>rpowSx_g (a:=el ss i2.1) hF hsm.1 hsm.2 hdg) (fun _=>Qg rfl (fun w F hF h9=>rmulSx_g (a:=(refS (Jk (el ps i.1).f,Jk (el ps i.1).f) (ss.map vS) (el ps i.1).k i2.1)) (b:=Hk (vS (el ss i2.1)) (Qb (el ps i.1).k i2.1)) hF (hz2.le (by decide)) (hpz.le (by omega))) (fun _=>K6<|QQ (vs:=[_,_]) rfl rfl rfl Js rfl .here (.here (.here .nil)) ⟨rfl,rfl,trivial⟩<|QE<|Qk<|QC<|QB<|JS_mv rfl<|QA (Qp rfl rfl (by omega))<|JS_as rfl<|QE ?_))
   exact Ql (⟨i2.1+1,hlt2⟩) (by show n2 - (i2.1+1)<n2 - i2.1;omega) ⟨rfl,rfl,rfl,rfl,rfl,rfl,rfl,trivial⟩ ((by show List.Sublist (α:=Nat×Obj) [(b7,.cells [tx (Jg (refS (Jk (el ps i.1).f,Jk (el ps i.1).f) (ss.map vS) (el ps i.1).k (i2.1+1)).1),tx (Jg (refS (Jk (el ps i.1).f,Jk (el ps i.1).f) (ss.map vS) (el ps i.1).k (i2.1+1)).2)].toArray 24 (0,0)),(b5,.cells [tx (Jg (refE (ss.map vS) ((ps.take i.1).map CS)).1),tx (Jg (refE (ss.map vS) ((ps.take i.1).map CS)).2)].toArray 24 (0,0)),(b4,.cells [tx [],tx []].toArray 24 (0,0))] _;rw [refS_step,el_mapS (by omega)];exact List.Sublist.refl _)) (fun F h=>⟨h.1.1.1,trivial⟩)
  ·
   have hge2:i2.1=n2:=by have:=dec_f hc;omega
   refine Qy ?_
   repeat (first | refine QZ ?_ | refine QV (by rfl) ?_)
   refine Qa<|QC<|QB<|QA (QL (vs:=[_,_]) rfl Js (.there .here) (.here (.here .nil)) rfl)<|QA (QL (vs:=[_,_]) rfl Js .here (.here (.here .nil)) rfl)<|QH rfl (fun w F hF h9=>raddSx_g (a:=(refE (ss.map vS) ((ps.take i.1).map CS))) (b:=(refS (Jk (el ps i.1).f,Jk (el ps i.1).f) (ss.map vS) (el ps i.1).k i2.1)) hF (hze.le (by omega)) (hz2.le (by decide))) (fun _=>QQ (vs:=[_,_]) rfl rfl rfl Js rfl (.there .here) (.here (.here .nil)) ⟨rfl,rfl,trivial⟩<|QE<|Qk<|QC<|QB<|JS_mv rfl<|QA (Qp rfl rfl (by omega))<|JS_as rfl<|QE ?_)
   have ek:(el ps i.1).k.length=i2.1:=by omega
   exact Ql (⟨i.1+1,hlt⟩) (by show ps.length - (i.1+1)<ps.length - i.1;omega) ⟨rfl,rfl,rfl,rfl,rfl,trivial⟩ (.cons _ (by show List.Sublist (α:=Nat×Obj) [(b5,.cells [tx (Jg (refE (ss.map vS) ((ps.take (i.1+1)).map CS)).1),tx (Jg (refE (ss.map vS) ((ps.take (i.1+1)).map CS)).2)].toArray 24 (0,0)),(b4,.cells [tx [],tx []].toArray 24 (0,0))] _;rw [refE_succ hlt,ek];exact List.Sublist.refl _)) (fun F h=>⟨h.1.1.1.1,trivial⟩)
 ·
  have hge:i.1=ps.length:=by have:=dec_f hc;omega
  refine Qy ?_
  repeat (first | refine QZ ?_ | refine QV (by rfl) ?_)
  refine Qa<|QC<|J_sr<|QA (QL (vs:=[_,_]) rfl Js .here (.here (.here .nil)) rfl)<|QQ (vs:=[_,_]) rfl rfl rfl Js rfl (.there .here) (.here (.here .nil)) ⟨rfl,rfl,trivial⟩<|JS_nt<|QS ?_
  exact QR (()) rfl (.Jc (c:=[_,_]) rfl Js (.there .here) .nil) (by rw [hge,List.take_length]) (fun F h9=>trivial)
end
section
open Go.RowKit Ig
theorem Xfm {w:World} {F:Gs} {q:Option Addr} {n cap:Nat} {ps:List Vr} (hF:Fits F w) (hR:Q4 F q n 2 (ps.flatMap KU)) (hP:Zl F ps) (hln:ps.length=n) (hnb:n≤9223372036854775807):Qc Tryz.prog 75 [.slice q n cap] w F (.bool (zX (Jp ps))):=by
 have hal:(Jp ps).length=n:=by rw [VV];exact hln
 refine QT.intro (G:=fun F=>Q4 F q n 2 (ps.flatMap KU)∧Zl F ps) Tryz.func75 rfl (by rfl) rfl rfl hF (fun F' hF'=>⟨hR.le hF',hP.le hF'⟩)<|J_sr<|JS_as rfl<|JS_nt<|QG<|J_sr<|JS_mv rfl<|QA (Qi rfl Xk)<|QA (QU rfl rfl rfl)<|JS_mv rfl ?_
 refine Qn (t:=6) rfl (fun hb6=>?_) (fun hb6=>?_)
 ·
  refine QJ rfl rfl<|JS_mv rfl<|QJ rfl rfl<|QA (Qi rfl Xk)<|QJ rfl rfl<|QA (QU rfl rfl rfl)<|QA (Qj rfl rfl rfl)<|JS_mv rfl ?_
  refine Qn (t:=11) rfl (fun hb11=>?_) (fun hb11=>?_)
  ·
   refine QN rfl rfl rfl<|QN rfl rfl rfl<|QN rfl rfl rfl<|QA (Qj rfl rfl rfl)<|JS_nt<|Wu rfl<|J_sr<|JS_as rfl<|JS_nt<|QS ?_
   exact F_r1 rfl rfl (congrArg Value.bool (by unfold zX;rw [hal];simp_all)) (fun F h9=>trivial)
  ·
   refine QJ rfl rfl<|JS_mv rfl<|QJ rfl rfl<|QA (Qi rfl Xk)<|QJ rfl rfl<|QA (QU rfl rfl rfl)<|QA (Qh rfl rfl rfl)<|QE<|QC ?_
   refine QP rfl (fun hc=>?_) (fun hc=>?_)
   ·
    have h15:=hc
    refine J_sr<|JS_as rfl<|JS_nt<|QS ?_
    exact F_r1 rfl rfl (congrArg Value.bool (by unfold zX;rw [hal];simp_all)) (fun F h9=>trivial)
   ·
    have h15:=hc
    have hn70:ps.length≤1000000:=by simp_all;omega
    refine QO<|QC<|J_sr<|JS_mv rfl<|QH rfl (fun w F hF h9=>Xfh hF (h9.1) (h9.2) (hln) (hn70)) (fun _=>JS_as rfl<|JS_nt<|QS ?_)
    exact F_r1 rfl rfl (congrArg Value.bool (by unfold zX;rw [hal];simp_all)) (fun F h9=>trivial)
 ·
  refine QN rfl rfl rfl<|QN rfl rfl rfl<|QN rfl rfl rfl<|QA (Qh rfl rfl rfl)<|JS_mv rfl<|QJ rfl rfl<|JS_mv rfl<|QJ rfl rfl<|QA (Qi rfl Xk)<|QJ rfl rfl<|QA (QU rfl rfl rfl)<|QA (Qh rfl rfl rfl)<|QE<|QC ?_
  refine QP rfl (fun hc=>?_) (fun hc=>?_)
  ·
   have h15:=hc
   refine J_sr<|JS_as rfl<|JS_nt<|QS ?_
   exact F_r1 rfl rfl (congrArg Value.bool (by unfold zX;rw [hal];simp_all)) (fun F h9=>trivial)
  ·
   have h15:=hc
   have hn70:ps.length≤1000000:=by simp_all;omega
   refine QO<|QC<|J_sr<|JS_mv rfl<|QH rfl (fun w F hF h9=>Xfh hF (h9.1) (h9.2) (hln) (hn70)) (fun _=>JS_as rfl<|JS_nt<|QS ?_)
   exact F_r1 rfl rfl (congrArg Value.bool (by unfold zX;rw [hal];simp_all)) (fun F h9=>trivial)
theorem xb:∀ {l:List Int},(∀ k∈l,0≤k)→Kd l≤12→l.sum≤Kd l∧0≤Kd l
 |[],_,_=>⟨Int.le_refl _,Int.le_refl _⟩
 |x::l,h,hc=>by
  have h0:=h x (List.mem_cons_self ..)
  have e:Kd (x::l)=(if 13<x then 13 else x)+Kd l:=rfl
  have h2:0≤Kd l:=(Ht l fun k hk=>h k (List.mem_cons_of_mem _ hk)).1
  rw [e] at hc ⊢
  have hx:¬ 13<x:=by intro g;rw [if_pos g] at hc;omega
  rw [if_neg hx] at hc ⊢
  have ih:=xb (l:=l) (fun k hk=>h k (List.mem_cons_of_mem _ hk)) (by omega)
  rw [List.sum_cons]
  omega
theorem cF {f:List UInt8} {l:List Int} {v:Int} (h:Zy f l v=0):(l.length:Int)=v+1∧(∀ k∈l,0≤k)∧l.sum≤12∧Ja f=0:=by
 unfold Zy at h
 split at h
 ·omega
 ·rename_i h1
  split at h
  ·omega
  ·rename_i h2
   have h3:=YS h
   have hn:∀ k∈l,0≤k:=fun k hk=>by
    rcases Int.lt_or_le k 0 with g | g
    ·exact absurd (List.any_eq_true.2 ⟨k,hk,decide_eq_true g⟩) h2
    ·exact g
   have hc:Kd l≤12:=by
    have:=h3.1
    split at this
    ·omega
    ·rename_i g;simpa using g
   have:=xb hn hc
   exact⟨by omega,hn,by omega,h3.2⟩
theorem dw {p:Pt} (h:vv p=true):∀ x∈p,x.2.length≤30∧x.1.length≤20:=fun x hx=>by
 unfold vv at h
 rw [Bool.not_eq_true'] at h
 rw [← Bool.not_eq_true,List.any_eq_true] at h
 by_cases g:x.2.length≤30∧x.1.length≤20
 ·exact g
 ·exact absurd ⟨x,hx,by simp;omega⟩ h
theorem vu {p:Pt} (h:zX p=true):(p.length≤8∨64<p.length∧p.length≤70)∧∀ x∈p,x.2.length≤30∧x.1.length≤20:=by
 unfold zX at h
 split at h
 ·cases h
 ·rename_i g
  refine⟨?_,dw h⟩
  simp at g
  omega
theorem Xft {p:Pt} {n:Nat} (h:DB p n=0):1≤n∧n≤25∧p.length≤64∧∀ x∈p,x.2.length=n∧(∀ k∈x.2,0≤k)∧x.2.sum≤12∧Ja x.1=0:=by
 unfold DB at h
 by_cases h0:Qm [if decide ((n:Int)=0)=true then 2 else 0,if decide ((n:Int)>25)=true then 5 else 0]=0
 ·rw [if_pos h0] at h
  have hn:=UK h0
  have hp:=KE h
  refine⟨hn.1,hn.2,hp.len,fun x hx=>?_⟩
  have:=cF (hp.term x hx)
  exact⟨by omega,this.2⟩
 ·rw [if_neg h0] at h;exact absurd h h0
end
section
open Go.RowKit Ig
theorem tmsA_atm (ps:List Vr):JA (Jp ps)=ps.map CS:=by unfold JA Jp;rw [List.map_map];rfl
def rowE (ss:List (List UInt8)):Int:=Qm (ss.map Ja)
def valE2 (p:Pt) (ss:List (List UInt8)):Int:=if DB p ss.length=0 then rowE ss else DB p ss.length
def spnE2 (p:Pt) (ss:List (List UInt8×List UInt8)):Int:=if DB p ss.length=0 then Xem ss else DB p ss.length
theorem valE2_zero {p:Pt} {ss:List (List UInt8)} (h:valE2 p ss=0):DB p ss.length=0∧rowE ss=0:=by
 unfold valE2 at h
 by_cases g:DB p ss.length=0
 ·rw [if_pos g] at h;exact⟨g,h⟩
 ·rw [if_neg g] at h;exact absurd h g
theorem spnE2_zero {p:Pt} {ss:List (List UInt8×List UInt8)} (h:spnE2 p ss=0):DB p ss.length=0∧Xem ss=0:=by
 unfold spnE2 at h
 by_cases g:DB p ss.length=0
 ·rw [if_pos g] at h;exact⟨g,h⟩
 ·rw [if_neg g] at h;exact absurd h g
theorem ev_give {p:Pt} {ss:List (List UInt8)} (h:valE2 p ss=0):ub p ss=NP (Zu (ss.map Jk) (JA p)):=by
 obtain ⟨h1,h2⟩:=valE2_zero h
 unfold ub;rw [if_pos h1,if_pos (show Qm (ss.map Ja)=0 from h2)]
theorem ev_bad {p:Pt} {ss:List (List UInt8)} (h:¬ valE2 p ss=0):ub p ss=([],valE2 p ss):=by
 unfold valE2 at h ⊢
 unfold ub
 by_cases g:DB p ss.length=0
 ·rw [if_pos g] at h ⊢;rw [if_neg (show ¬ Qm (ss.map Ja)=0 from h),if_pos g];rfl
 ·rw [if_neg g,if_neg g]
theorem es_give {p:Pt} {ss:List (List UInt8×List UInt8)} (h:spnE2 p ss=0):yA p ss=V6 (ED (ss.map vS) (JA p)):=by
 obtain ⟨h1,h2⟩:=spnE2_zero h
 unfold yA;rw [if_pos h1,if_pos (show Qm (ss.map fun s=>XD s.1 s.2)=0 from h2)];rfl
theorem es_bad {p:Pt} {ss:List (List UInt8×List UInt8)} (h:¬ spnE2 p ss=0):yA p ss=(([],[]),spnE2 p ss):=by
 unfold spnE2 at h ⊢
 unfold yA
 by_cases g:DB p ss.length=0
 ·rw [if_pos g] at h ⊢;rw [if_neg (show ¬ Qm (ss.map fun s=>XD s.1 s.2)=0 from h),if_pos g];rfl
 ·rw [if_neg g,if_neg g]
section
variable {ps:List Vr} {n:Nat}
theorem low_of (hp:DB (Jp ps) n=0) (hl:zX (Jp ps)=true):LowT ps n∧ps.length≤8∧1≤n∧n≤25:=by
 obtain ⟨h1,h2,h3,h4⟩:=Xft hp
 obtain ⟨h5,h6⟩:=vu hl
 rw [VV] at h3 h5
 refine⟨fun t ht=>?_,by omega,h1,h2⟩
 have hm:(t.f,t.k)∈Jp ps:=List.mem_map.2 ⟨t,ht,rfl⟩
 have a:=h4 _ hm
 have b:=h6 _ hm
 exact⟨a.2.2.2,b.2,a.1,a.2.1,a.2.2.1⟩
theorem lowx_of {ss:List (List UInt8)} (h:rowE ss=0) (hl:∀ s∈ss,s.length≤20):LowX ss:=fun s hs =>
 ⟨R9 h _ (List.mem_map.2 ⟨s,hs,rfl⟩),hl s hs⟩
theorem lowb_of {ss:List (List UInt8×List UInt8)} (h:Xem ss=0) (hl:∀ s∈ss,s.1.length≤20∧s.2.length≤20):LowB ss:=fun s hs =>
 ⟨R9 h _ (List.mem_map.2 ⟨s,hs,rfl⟩),hl s hs⟩
end
def wantV (ps:List Vr) (ss:List (List UInt8)):List UInt8:=if valE2 (Jp ps) ss=0 then Jg (Zu (ss.map Jk) (ps.map CS)) else []
theorem number_val {w:World} {F:Gs} {ps:List Vr} {ss:List (List UInt8)} (hF:Fits F w) (hl:zX (Jp ps)=true) (hs:∀ s∈ss,s.length≤20):Qc Tryz.prog 25 [tx (ub (Jp ps) ss).1,.int .i64 (ub (Jp ps) ss).2,.int .i64 (valE2 (Jp ps) ss),tx (wantV ps ss)] w F (.bool true):=by
 by_cases h:valE2 (Jp ps) ss=0
 ·obtain ⟨h1,h2⟩:=valE2_zero h
  obtain ⟨ht,hn,_,hx⟩:=low_of h1 hl
  have hlx:=lowx_of h2 hs
  have e:=ev_give h
  rw [tmsA_atm] at e
  have hz:=Ox hlx.sz (by rw [List.length_map];exact hx) (l:=ps.map CS) (fun t hu=>by rw [List.length_map];exact ht.tm t hu)
  rw [List.length_map] at hz
  have:=Xf4 hF e (by omega)
  unfold wantV
  rw [if_pos h,h]
  exact this
 ·have:=Xf9 (u:=[]) hF h (ev_bad h) (Nat.zero_le _)
  unfold wantV
  rw [if_neg h]
  exact this
theorem span_val {w:World} {F:Gs} {ps:List Vr} {ss:List (List UInt8×List UInt8)} (hF:Fits F w) (hl:zX (Jp ps)=true) (hs:∀ s∈ss,s.1.length≤20∧s.2.length≤20) (h:spnE2 (Jp ps) ss=0):Qc Tryz.prog 26 [.agg #[tx (yA (Jp ps) ss).1.1,tx (yA (Jp ps) ss).1.2],.int .i64 (yA (Jp ps) ss).2,.int .i64 0,cq (refE (ss.map vS) (ps.map CS))] w F (.bool true):=by
 obtain ⟨h1,h2⟩:=spnE2_zero h
 obtain ⟨ht,hn,_,hx⟩:=low_of h1 hl
 have hlx:=lowb_of h2 hs
 have e:=es_give h
 rw [tmsA_atm,← refE_eq (fun t hu=>(ht.tm t hu).2.2.1)] at e
 have hz:=refE_sz hlx.sz (by rw [List.length_map];exact hx) (l:=ps.map CS) (fun t hu=>by rw [List.length_map];exact ht.tm t hu)
 rw [List.length_map] at hz
 exact uD hF e ⟨Nat.le_trans hz.1 (by omega),Nat.le_trans hz.2 (by omega)⟩
end
section
open Go.RowKit Ig
theorem values_g {w:World} {F:Gs} {q qx qs:Option Addr} {n cap nx cx ns cs:Nat} {ps:List Vr} {xs:List (List UInt8)} {ss:List (List UInt8×List UInt8)} (hF:Fits F w) (hGl:JC F) (hR:Q4 F q n 2 (ps.flatMap KU)) (hP:Zl F ps) (hln:ps.length=n) (hnb:n≤9223372036854775807)
  (hX:Q4 F qx nx 1 (xs.map tx)) (hxn:xs.length=nx) (hxb:nx≤9223372036854775807) (hS:Q4 F qs ns 2 (ss.flatMap spC)) (hsn:ss.length=ns) (hsb:ns≤9223372036854775807):Qc Tryz.prog 11 [.slice q n cap,.slice qx nx cx,.slice qs ns cs] w F (.bool true):=by
 refine QT.intro (G:=fun F=>JC F∧Q4 F q n 2 (ps.flatMap KU)∧Zl F ps∧Q4 F qx nx 1 (xs.map tx)∧Q4 F qs ns 2 (ss.flatMap spC)) Tryz.func11 rfl (by rfl) rfl rfl hF (fun F' hF'=>⟨hGl.le hF',hR.le hF',hP.le hF',hX.le hF',hS.le hF'⟩)<|J_sr<|JS_as rfl<|JS_nt<|QG ?_
 refine K5 [(0,_),(1,_),(2,_)] [(31,.bool ((!zX (Jp ps)||decide ((nx:Int)>30)||decide ((ns:Int)>30))))] ⟨rfl,rfl,rfl,trivial⟩ ?_ ?_
 ·
  refine QB ?_
  refine QH rfl (fun w F hF h9=>jR hF h9.1) (fun _=>?_)
  refine QA (Z0 rfl)<|JS_mv rfl<|QJ rfl rfl<|JS_mv rfl<|QJ rfl rfl ?_
  refine QH rfl (fun w F hF h9=>Xfm hF h9.1.2.1 h9.1.2.2.1 hln hnb) (fun _=>?_)
  refine QJ rfl rfl<|QA (Z0 rfl)<|QA (Qh rfl rfl rfl)<|JS_mv rfl ?_
  refine Qn (t:=22) rfl (fun hb22=>?_) (fun hb22=>?_)
  ·
   refine QN rfl rfl rfl<|QN rfl rfl rfl<|QN rfl rfl rfl<|QA (Qj rfl rfl rfl)<|JS_mv rfl<|QN rfl rfl rfl<|QN rfl rfl rfl<|QN rfl rfl rfl<|QA (Qj rfl rfl rfl)<|QE ?_
   exact ZB ⟨rfl,rfl,rfl,(congrArg (fun b=>some (Value.bool b)) (by rw [Bool.eq_iff_iff];simp_all<;>(intros;omega))),trivial⟩ subl_r (fun _ h=>h.1.1)
  ·
   refine QJ rfl rfl<|JS_mv rfl<|QJ rfl rfl<|QA (Qi rfl Hz)<|QJ rfl rfl<|QA (QU rfl rfl rfl)<|QA (Qh rfl rfl rfl)<|JS_mv rfl ?_
   refine Qn (t:=27) rfl (fun hb27=>?_) (fun hb27=>?_)
   ·
    refine QN rfl rfl rfl<|QN rfl rfl rfl<|QN rfl rfl rfl<|QA (Qj rfl rfl rfl)<|QE ?_
    exact ZB ⟨rfl,rfl,rfl,(congrArg (fun b=>some (Value.bool b)) (by rw [Bool.eq_iff_iff];simp_all<;>(intros;omega))),trivial⟩ subl_r (fun _ h=>h.1.1)
   ·
    refine QJ rfl rfl<|JS_mv rfl<|QJ rfl rfl<|QA (Qi rfl Sv)<|QJ rfl rfl<|QA (QU rfl rfl rfl)<|QA (Qh rfl rfl rfl)<|QE ?_
    exact ZB ⟨rfl,rfl,rfl,(congrArg (fun b=>some (Value.bool b)) (by rw [Bool.eq_iff_iff];simp_all<;>(intros;omega))),trivial⟩ subl_r (fun _ h=>h.1.1)
 ·
  simp only [List.cons_append,List.nil_append]
  refine QP rfl (fun hc=>?_) (fun hc=>?_)
  ·
   refine QG<|QB ?_
   refine QH rfl (fun w F hF h9=>jR hF h9.1) (fun _=>?_)
   refine JS_as rfl<|JS_nt<|QS ?_
   exact F_r1 rfl rfl (rfl) (fun F h9=>trivial)
  ·
   have hg:zX (Jp ps)=true∧nx≤30∧ns≤30:=by simp at hc;exact⟨hc.1.1,by omega,by omega⟩
   obtain ⟨hli,hx30,hs30⟩:=hg
   obtain ⟨hl70,hlt⟩:=vu hli
   rw [VV] at hl70
   have htame:VB (⟨⟨q,n,cap⟩,ps⟩:Yw):=⟨hln,fun t ht=>by have:=hlt _ (List.mem_map.2 ⟨t,ht,rfl⟩:(t.f,t.k)∈Jp ps);exact⟨by have:=this.2;dsimp only at this;omega,by have:=this.1;dsimp only at this;omega⟩,by dsimp only;omega⟩
   refine QO<|QC<|QG<|J_sr<|JS_as rfl<|JS_nt<|QX ?_
   refine ZT (ι:=Ek xs (fun s:List UInt8=>decide ((s.length:Int)>20))) [(0,_),(1,_),(2,_)] (fun i=>[(7,.int .i64 ((i.i:Nat):Int))]) (fun i=>xs.length - i.i) (Ek.start _ _) ⟨rfl,rfl,rfl,trivial⟩ ⟨rfl,trivial⟩ (fun i=>?_)
   simp only [List.cons_append,List.nil_append]
   have hi:=i.le
   refine QG<|J_sr<|JS_mv rfl<|JS_mv rfl<|QA (Qi rfl Hz)<|QA (QU rfl rfl rfl)<|QE<|QC ?_
   refine QP rfl (fun hc2=>?_) (fun hc2=>?_)
   ·
    have hlt1:i.i<xs.length:=by have:=dec_t hc2;omega
    refine QO<|QC<|QG<|QX<|J_sr<|JS_mv rfl<|JS_mv rfl<|QA (JK (n:=nx) (i.i) (fun F h9=>h9.2.2.2.1) rfl rfl Hz Jy (by omega))<|QA (JM (n:=nx) ((i.i)*1) (fun F h9=>h9.2.2.2.1) (by omega) rfl Jy (DR (f:=tx) (l:=xs) (by omega)))<|QA (XA rfl En)<|QA (QU rfl rfl rfl)<|QE<|QC ?_
    refine QP rfl (fun hc2=>?_) (fun hc2=>?_)
    ·
     refine J_sr<|JS_as rfl<|JS_nt<|QS ?_
     repeat (first | refine JE ?_ | refine Q3 ?_)
     exact F_r1 rfl rfl (rfl) (fun F h9=>trivial)
    ·
     refine QO<|Qk<|QC<|QB<|JS_mv rfl<|QA (Qp rfl rfl (by omega))<|JS_as rfl<|QE ?_
     exact Ql (i.next hlt1 (by exact hc2)) (by show xs.length - (i.i+1)<xs.length - i.i;omega) ⟨rfl,rfl,rfl,rfl,trivial⟩ subl_r (fun F h=>h)
   ·
    have hge:xs.length≤i.i:=by have:=dec_f hc2;omega
    have hxs:∀ s∈xs,s.length≤20:=by
     intro s hs
     have h:=i.stop hge
     rw [List.any_eq_true] at h
     by_cases k:s.length≤20
     ·exact k
     ·exact absurd ⟨s,hs,by simp;omega⟩ h
    refine Qy ?_
    repeat (first | refine QZ ?_ | refine QV (by rfl) ?_)
    refine Qa<|QC<|QG<|J_sr<|JS_as rfl<|JS_nt<|QX ?_
    refine ZT (ι:=Ek ss (fun s:List UInt8×List UInt8=>decide ((s.1.length:Int)>20)||decide ((s.2.length:Int)>20))) [(0,_),(1,_),(2,_)] (fun i2=>[(8,.int .i64 ((i2.i:Nat):Int))]) (fun i2=>ss.length - i2.i) (Ek.start _ _) ⟨rfl,rfl,rfl,trivial⟩ ⟨rfl,trivial⟩ (fun i2=>?_)
    simp only [List.cons_append,List.nil_append]
    have hi:=i2.le
    refine QG<|J_sr<|JS_mv rfl<|JS_mv rfl<|QA (Qi rfl Sv)<|QA (QU rfl rfl rfl)<|QE<|QC ?_
    refine QP rfl (fun hc2=>?_) (fun hc2=>?_)
    ·
     have hlt1:i2.i<ss.length:=by have:=dec_t hc2;omega
     refine QO<|QC<|QG<|QX<|J_sr<|JS_mv rfl<|JS_mv rfl<|QA (JK (n:=ns) (i2.i) (fun F h9=>h9.2.2.2.2) rfl rfl Sv Js (by omega))<|QA (QI rfl Eb Jy)<|QA (JM (n:=ns) ((i2.i)*2+0) (fun F h9=>h9.2.2.2.2) (by omega) rfl Jy (J2 (f:=spC) (l:=ss) Xde (by omega) rfl))<|QA (XA rfl En)<|QA (QU rfl rfl rfl)<|JS_mv rfl ?_
     refine Qn (t:=58) rfl (fun hb58=>?_) (fun hb58=>?_)
     ·
      refine QN rfl rfl rfl<|QN rfl rfl rfl<|QN rfl rfl rfl<|QN rfl rfl rfl<|QN rfl rfl rfl<|QN rfl rfl rfl<|QN rfl rfl rfl<|QA (Qj rfl rfl rfl)<|JS_nt<|Wu rfl<|J_sr<|JS_as rfl<|JS_nt<|QS ?_
      repeat (first | refine JE ?_ | refine Q3 ?_)
      exact F_r1 rfl rfl (rfl) (fun F h9=>trivial)
     ·
      refine QJ rfl rfl<|JS_mv rfl<|QJ rfl rfl<|JS_mv rfl<|QJ rfl rfl<|QA (JK (n:=ns) (i2.i) (fun F h9=>h9.2.2.2.2) rfl rfl Sv Js (by omega))<|QJ rfl rfl<|QA (QI rfl Ea Jy)<|QJ rfl rfl<|QA (JM (n:=ns) ((i2.i)*2+1) (fun F h9=>h9.2.2.2.2) (by omega) rfl Jy (J2 (f:=spC) (l:=ss) Xde (by omega) rfl))<|QJ rfl rfl<|QA (XA rfl En)<|QJ rfl rfl<|QA (QU rfl rfl rfl)<|QA (Qh rfl rfl rfl)<|QE<|QC ?_
      refine QP rfl (fun hc2=>?_) (fun hc2=>?_)
      ·
       refine J_sr<|JS_as rfl<|JS_nt<|QS ?_
       repeat (first | refine JE ?_ | refine Q3 ?_)
       exact F_r1 rfl rfl (rfl) (fun F h9=>trivial)
      ·
       refine QO<|Qk<|QC<|QB<|JS_mv rfl<|QA (Qp rfl rfl (by omega))<|JS_as rfl<|QE ?_
       exact Ql (i2.next hlt1 (by rw [hb58,Bool.false_or];exact hc2)) (by show ss.length - (i2.i+1)<ss.length - i2.i;omega) ⟨rfl,rfl,rfl,rfl,trivial⟩ subl_r (fun F h=>h)
    ·
     have hge:ss.length≤i2.i:=by have:=dec_f hc2;omega
     have hss:∀ s∈ss,s.1.length≤20∧s.2.length≤20:=by
      intro s hs
      have h:=i2.stop hge
      rw [List.any_eq_true] at h
      by_cases k:s.1.length≤20∧s.2.length≤20
      ·exact k
      ·exact absurd ⟨s,hs,by simp;omega⟩ h
     refine Qy ?_
     repeat (first | refine QZ ?_ | refine QV (by rfl) ?_)
     refine Qa<|QC<|J_sr<|JS_mv rfl<|JS_mv rfl ?_
     refine QH rfl (fun w F hF ⟨hGl,hR,hP,hX,hS⟩=>z6 (a:=(⟨⟨q,n,cap⟩,ps⟩:Yw)) hF hGl hR hP htame hX hxn (fun s hs=>by have:=hxs s hs;omega) (by omega)) (fun _=>?_)
     refine JS_mv rfl<|QA (QK rfl rfl)<|QA (QK rfl rfl)<|JS_as rfl<|JS_as rfl<|JS_nt<|J_sr<|JS_mv rfl<|JS_mv rfl ?_
     refine QH rfl (fun w F hF ⟨⟨hGl,hR,hP,hX,hS⟩,_⟩=>Ty (a:=(⟨⟨q,n,cap⟩,ps⟩:Yw)) hF hGl hR hP htame hS hsn (fun s hs=>by have:=hss s hs;omega) (by omega)) (fun _=>?_)
     refine JS_mv rfl<|QA (QK rfl rfl)<|QA (QK rfl rfl) ?_
     refine Qf Yk (fun b11=>?_)
     refine QQ (vs:=[_,_]) rfl rfl rfl Js rfl .here (.here (.here .nil)) ⟨rfl,rfl,trivial⟩<|JS_as rfl<|JS_nt<|J_sr<|JS_mv rfl<|JS_mv rfl<|QA (Qi rfl Hz) ?_
     refine QH rfl (fun w F hF h9=>Xfg hF h9.1.1.1 h9.1.1.2.1 h9.1.1.2.2.1 hln htame.2.1 htame.2.2 (k:=nx) (by omega)) (fun _=>?_)
     refine JS_as rfl<|QE<|QC ?_
     refine K5 [(0,_),(1,_),(2,_),(9,_),(10,_),(11,_),(12,_)] [(13,.int .i64 ((valE2 (Jp ps) xs)))] ⟨rfl,rfl,rfl,rfl,rfl,rfl,rfl,trivial⟩ ?_ ?_
     ·
      refine J_sr<|JS_mv rfl<|QA (QU rfl rfl rfl)<|QE<|QC ?_
      refine QP rfl (fun hc=>?_) (fun hc=>?_)
      ·
       have hc5:DB (Jp ps) nx=0:=by simpa using hc
       refine QB<|JS_mv rfl ?_
       refine QH rfl (fun w F hF h9=>j2 (l:=xs) hF h9.1.1.1.2.2.2.1 ⟨hxn,fun s hs=>by have:=hxs s hs;omega⟩ (by omega)) (fun _=>?_)
       refine JS_as rfl<|QE ?_
       exact ZB ⟨rfl,rfl,rfl,rfl,rfl,rfl,rfl,(congrArg (fun z:Int=>some (Value.int .i64 z)) (by unfold valE2;rw [hxn,if_pos hc5];rfl)),trivial⟩ subl_r (fun _ h=>h.1)
      ·
       have hc5:¬ DB (Jp ps) nx=0:=by simpa using hc
       refine QO ?_
       exact ZB ⟨rfl,rfl,rfl,rfl,rfl,rfl,rfl,(congrArg (fun z:Int=>some (Value.int .i64 z)) (by unfold valE2;rw [hxn,if_neg hc5])),trivial⟩ subl_r (fun _ h=>h)
     ·
      simp only [List.cons_append,List.nil_append]
      refine J_sr<|JS_as rfl<|QE<|QC ?_
      refine K5 [(0,_),(2,_),(9,_),(10,_),(11,_),(12,_),(13,_)] [(14,tx (wantV ps xs))] ⟨rfl,rfl,rfl,rfl,rfl,rfl,rfl,trivial⟩ ?_ ?_
      ·
       refine J_sr<|JS_mv rfl<|QA (QU rfl rfl rfl)<|QE<|QC ?_
       refine QP rfl (fun hc=>?_) (fun hc=>?_)
       ·
        have hc6:valE2 (Jp ps) xs=0:=by simpa using hc
        have hv:=valE2_zero hc6
        rw [hxn] at hv
        have hlo:=low_of hv.1 hli
        refine QB<|JS_mv rfl<|JS_mv rfl ?_
        refine QH rfl (fun w F hF ⟨⟨⟨⟨hGl,hR,hP,hX,hS⟩,_⟩,_⟩,_⟩=>revalPoly_g hF hR hP hln hX hxn hlo.1 (lowx_of hv.2 hxs) ⟨by omega,hlo.2.2.2⟩) (fun _=>?_)
        refine JS_as rfl<|QE ?_
        exact ZB ⟨rfl,rfl,rfl,rfl,rfl,rfl,rfl,(congrArg (fun l=>some (tx l)) (by unfold wantV;rw [if_pos hc6])),trivial⟩ subl_r (fun _ h=>h.1)
       ·
        have hc6:¬ valE2 (Jp ps) xs=0:=by simpa using hc
        refine QO ?_
        exact ZB ⟨rfl,rfl,rfl,rfl,rfl,rfl,rfl,(congrArg (fun l=>some (tx l)) (by unfold wantV;rw [if_neg hc6])),trivial⟩ subl_r (fun _ h=>h)
      ·
       simp only [List.cons_append,List.nil_append]
       refine QG<|J_sr<|JS_mv rfl<|JS_mv rfl<|JS_mv rfl<|JS_mv rfl ?_
       refine QH rfl (fun w F hF h9=>number_val hF hli hxs) (fun _=>?_)
       refine QA (Z0 rfl)<|QE<|QC ?_
       refine QP rfl (fun hc=>?_) (fun hc=>?_)
       ·exact absurd hc (by simp)
       ·
        refine QO<|QC<|J_sr<|JS_mv rfl<|JS_mv rfl<|QA (Qi rfl Sv) ?_
        refine QH rfl (fun w F hF h9=>Xfg hF h9.1.1.1.1.1 h9.1.1.1.1.2.1 h9.1.1.1.1.2.2.1 hln htame.2.1 htame.2.2 (k:=ns) (by omega)) (fun _=>?_)
        refine JS_as rfl<|QE<|QC ?_
        refine K5 [(0,_),(2,_),(11,_),(12,_)] [(13,.int .i64 ((spnE2 (Jp ps) ss)))] ⟨rfl,rfl,rfl,rfl,trivial⟩ ?_ ?_
        ·
         refine J_sr<|JS_mv rfl<|QA (QU rfl rfl rfl)<|QE<|QC ?_
         refine QP rfl (fun hc=>?_) (fun hc=>?_)
         ·
          have hc5:DB (Jp ps) ns=0:=by simpa using hc
          refine QB<|JS_mv rfl ?_
          refine QH rfl (fun w F hF h9=>Xdv (l:=ss) hF h9.1.1.1.1.1.2.2.2.2 ⟨hsn,fun s hs=>by have:=hss s hs;omega⟩ (by omega)) (fun _=>?_)
          refine JS_as rfl<|QE ?_
          exact ZB ⟨rfl,rfl,rfl,rfl,(congrArg (fun z:Int=>some (Value.int .i64 z)) (by unfold spnE2;rw [hsn,if_pos hc5];rfl)),trivial⟩ subl_r (fun _ h=>h.1)
         ·
          have hc5:¬ DB (Jp ps) ns=0:=by simpa using hc
          refine QO ?_
          exact ZB ⟨rfl,rfl,rfl,rfl,(congrArg (fun z:Int=>some (Value.int .i64 z)) (by unfold spnE2;rw [hsn,if_neg hc5])),trivial⟩ subl_r (fun _ h=>h)
        ·
         simp only [List.cons_append,List.nil_append]
         refine QG<|J_sr<|JS_mv rfl<|QA (QU rfl rfl rfl)<|QE<|QC ?_
         refine QP rfl (fun hc=>?_) (fun hc=>?_)
         ·
          have hbad:¬ spnE2 (Jp ps) ss=0:=by simpa using hc
          refine J_sr<|QA (QL (vs:=[_,_]) rfl Js .here (.here (.here .nil)) rfl)<|JS_mv rfl<|JS_mv rfl<|QA (Q6 rfl KI Yk .nil) ?_
          refine QH rfl (fun w F hF h9=>Xfo (p:=yA (Jp ps) ss) (d:=spnE2 (Jp ps) ss) (u:=([],[])) hF hbad (es_bad hbad) ⟨Nat.zero_le _,Nat.zero_le _⟩) (fun _=>?_)
          refine JS_as rfl<|JS_nt<|QS ?_
          exact F_r1 rfl rfl (rfl) (fun F h9=>trivial)
         ·
          have h0:spnE2 (Jp ps) ss=0:=by simpa using hc
          have hv:=spnE2_zero h0
          rw [hsn] at hv
          have hlo:=low_of hv.1 hli
          refine QO<|QC<|QG<|JR subl_r mixed (by kernel_rfl)<|QM (QL (vs:=[_,_]) rfl Js .here (.here (.here .nil)) rfl)<|QM (QD rfl)<|QM (QD rfl)<|QM (QD rfl) ?_
          refine Qg rfl (fun w F hF ⟨⟨⟨⟨⟨⟨hGl,hR,hP,hX,hS⟩,_⟩,_⟩,_⟩,_⟩,_⟩=>revalSpans_g hF hR hP hln hS hsn hlo.1 (lowb_of hv.2 hss) ⟨by omega,hlo.2.2.2⟩) (fun _=>?_)
          refine Qg rfl (fun w F hF h9=>span_val hF hli hss h0) (fun _=>?_)
          refine QM (QF rfl)<|Q9<|QC<|QS ?_
          exact F_r1 rfl rfl (rfl) (fun F h9=>trivial)
end
end Go.Proofs.YtknegjaeoffnbaaGreatDoor
