/- Steps of the proof of the theorem in the last file. -/
import Derived.Test.YtknegjaeoffnbaaGreatDoorP1
set_option linter.all false
namespace Go.Proofs.YtknegjaeoffnbaaGreatDoor
section
open Go.RowKit Ig
theorem VD.all {l vs:List Value} (h:vs.length=l.length):VD l 0 vs vs:=by
 induction vs generalizing l with
 |nil=>cases l with | nil=>exact .nil | cons=>simp at h
 |cons v vs ih =>
  cases l with
  |nil=>simp at h
  |cons x l=>exact .here (ih (by simpa using h))
theorem PD.all:∀ l:List Value,PD l 0 l
 |[]=>.nil
 |_::l=>.here (PD.all l)
theorem P3:∀ {l:List Value},(∀ v∈l,v.oneCell'=true)→Ht l
 |[],_=>trivial
 |v::l,h=>⟨h v (by simp),P3 (fun u hu=>h u (by simp [hu]))⟩
theorem Lj {w:World} {F:Gs} {q:Option Addr} {n c f:Nat} {cs:List Value} {vs:Nat→Value} {es:List Int} {c1 c2:List Value} {G0:Gs→Prop} (hF:Fits F w) (hg:∀ F F',Gs.le F F'→G0 F→G0 F') (h0:G0 F) (hR:JF F q n 1 cs) (hn:es.length=n) (hb:n≤1000000000)
  (hv:∀ i,i<n→cs[i*1]?=some (vs i)) (hc:∀ i (hi:i<es.length) w F,Fits F w→G0 F→QW Tryz.prog f (c1++[vs i]++c2) w F (.int .i64 es[i])) :
  QW Tryz.prog 202 [.slice q n c,.func (.func f) c1.toArray c2.toArray] w F (.int .i64 (Qj es)):=by
 refine QT.intro (G:=fun F=>G0 F∧JF F q n 1 cs) Tryz.func202 rfl (by rfl) rfl rfl hF (fun F' hF'=>⟨hg F F' hF' h0,hR.le hF'⟩)<|QG<|QB<|QA (QE rfl)<|QF<|QD<|QG<|QG<|QB<|QA (QC rfl)<|QA (Ql rfl BO)<|QA (QC rfl)<|QF<|QD<|Qa<|XS (ι:=G6 n (fun i=>Qj (es.drop i)=Qj es)) (fun i=>[(1,.func (.func f) c1.toArray c2.toArray),(8,.slice q n c),(9,.int .i64 n),(10,.int .i64 i.i)]) (fun _=>[]) (fun _ F=>G0 F∧JF F q n 1 cs) (fun i=>n - i.i) ⟨0,Nat.zero_le _,rfl⟩ ⟨rfl,rfl,rfl,rfl,trivial⟩ (List.Sublist.refl _) (fun _ h=>h) (fun i=>?_)
 have hle:=i.le
 refine QG<|QB<|QA (QU rfl rfl rfl)<|QF<|QD<|QG ?_
 refine QO rfl (fun hc1=>?_) (fun hc1=>?_)
 ·
  have hi:i.i<n:=by simp at hc1;omega
  have hil:i.i<es.length:=by omega
  refine Xl _ (fun w F hF h=>h.2.ptr (by omega)) (fun hq=>?_)
  obtain ⟨qb,qo,rfl⟩:=hq
  refine QN<|QD<|QG<|Qa<|QG<|QB<|QA (Qy rfl rfl BO X2 hi)<|QA (XW rfl X2 (fun F h=>h.2) (by omega) (hv i.i hi))<|QA (QE rfl)<|QF<|QD<|QG<|QB<|QA (QC rfl)<|QA (QC rfl)<|WL rfl rfl (fun w F hF h=>hc i.i hil w F hF h.1) (fun _=>QA (QE rfl)<|QF<|QD<|QG<|QB<|QA (QC rfl)<|QA (QU rfl rfl rfl)<|QF<|QD ?_)
  refine QO rfl (fun hc1=>?_) (fun hc1=>?_)
  ·
   refine QG<|QB<|QA (QC rfl)<|QA (QE rfl)<|QF<|QD<|QS ?_
   repeat (first | refine JN ?_ | refine JE ?_)
   exact QQ () rfl (.tmp rfl .nil) (congrArg (Value.int .i64) (i.h.symm.trans (We hil (by simpa using hc1)))) (fun _ _=>trivial)
  ·
   refine QN<|Qm<|QD<|QB<|QA (Qw rfl rfl (by omega))<|QA (QC rfl)<|QF ?_
   exact Qo (⟨i.i+1,by omega,by rw [← KU hil (by simpa using hc1)];exact i.h⟩:G6 n (fun i=>Qj (es.drop i)=Qj es)) (by show n - (i.i+1)<n - i.i;omega) ⟨rfl,rfl,rfl,rfl,trivial⟩ (List.Sublist.refl _) (fun _ h=>h.1)
 ·
  refine Q6 ?_
  repeat (first | refine Qc ?_ | refine QX (by rfl) ?_)
  refine Qd<|QD<|QG<|QB<|QA (QE rfl)<|QF<|QD<|QS ?_
  exact QQ () rfl (.tmp rfl .nil) (by rw [← i.h,List.drop_of_length_le (by simp at hc1;omega)];rfl) (fun _ _=>trivial)
theorem FQ {w:World} {F:Gs} {q:Option Addr} {n c f:Nat} {cs:List Value} {vs:Nat→List Value} {es:List Int} {c1 c2:List Value} {G0:Gs→Prop} (hF:Fits F w) (hg:∀ F F',Gs.le F F'→G0 F→G0 F') (h0:G0 F) (hR:JF F q n 2 cs) (hn:es.length=n) (hb:n≤1000000000)
  (hv:∀ i,i<n→(vs i).length=2∧∀ j v,(vs i)[j]?=some v→cs[i*2+j]?=some v) (h1:∀ i,i<n→∀ v∈vs i,v.oneCell'=true) (hc:∀ i (hi:i<es.length) w F,Fits F w→G0 F→QW Tryz.prog f (c1++[.agg (vs i).toArray]++c2) w F (.int .i64 es[i])) :
  QW Tryz.prog 151 [.slice q n c,.func (.func f) c1.toArray c2.toArray] w F (.int .i64 (Qj es)):=by
 refine QT.intro (G:=fun F=>G0 F∧JF F q n 2 cs) Tryz.func151 rfl (by rfl) rfl rfl hF (fun F' hF'=>⟨hg F F' hF' h0,hR.le hF'⟩)<|QG<|QB<|QA (QE rfl)<|QF<|QD<|QG<|QG<|QB<|QA (QC rfl)<|QA (Ql rfl TK)<|QA (QC rfl)<|QF<|QD<|Qa<|XS (ι:=G6 n (fun i=>Qj (es.drop i)=Qj es)) (fun i=>[(1,.func (.func f) c1.toArray c2.toArray),(8,.slice q n c),(9,.int .i64 n),(10,.int .i64 i.i)]) (fun _=>[]) (fun _ F=>G0 F∧JF F q n 2 cs) (fun i=>n - i.i) ⟨0,Nat.zero_le _,rfl⟩ ⟨rfl,rfl,rfl,rfl,trivial⟩ (List.Sublist.refl _) (fun _ h=>h) (fun i=>?_)
 have hle:=i.le
 refine QG<|QB<|QA (QU rfl rfl rfl)<|QF<|QD<|QG ?_
 refine QO rfl (fun hc1=>?_) (fun hc1=>?_)
 ·
  have hi:i.i<n:=by simp at hc1;omega
  have hil:i.i<es.length:=by omega
  refine Xl _ (fun w F hF h=>h.2.ptr (by omega)) (fun hq=>?_)
  obtain ⟨qb,qo,rfl⟩:=hq
  refine QN<|QD<|QG<|Qa<|QG<|QB<|QA (Qy rfl rfl TK Jw hi)<|QA (Db rfl Jw (fun F h=>h.2) (by omega) (hv i.i hi).1 (hv i.i hi).2)<|QZ Yp (fun b6=>QP (vs:=vs i.i) (l':=vs i.i) rfl rfl rfl Jw (hv i.i hi).1 .here (VD.all (hv i.i hi).1) (P3 (h1 i.i hi))<|QF<|QD<|QG<|QB<|QA (QC rfl)<|QA (QL (vs:=vs i.i) rfl Jw .here (PD.all _) (hv i.i hi).1)<|WL rfl rfl (fun w F hF h=>hc i.i hil w F hF h.1) (fun _=>QA (QE rfl)<|QF<|QD<|QG<|QB<|QA (QC rfl)<|QA (QU rfl rfl rfl)<|QF ?_))
  refine QD ?_
  refine QO rfl (fun hc1=>?_) (fun hc1=>?_)
  ·
   refine QG<|QB<|QA (QC rfl)<|QA (QE rfl)<|QF<|QD<|QS ?_
   repeat (first | refine JN ?_ | refine JE ?_)
   exact QQ () rfl (.tmp rfl .nil) (congrArg (Value.int .i64) (i.h.symm.trans (We hil (by simpa using hc1)))) (fun _ _=>trivial)
  ·
   refine QN<|Qm<|QD<|QB<|QA (Qw rfl rfl (by omega))<|QA (QC rfl)<|QF ?_
   exact Qo (⟨i.i+1,by omega,by rw [← KU hil (by simpa using hc1)];exact i.h⟩:G6 n (fun i=>Qj (es.drop i)=Qj es)) (by show n - (i.i+1)<n - i.i;omega) ⟨rfl,rfl,rfl,rfl,trivial⟩ (List.sublist_cons_self _ _) (fun _ h=>h.1)
 ·
  refine Q6 ?_
  repeat (first | refine Qc ?_ | refine QX (by rfl) ?_)
  refine Qd<|QD<|QG<|QB<|QA (QE rfl)<|QF<|QD<|QS ?_
  exact QQ () rfl (.tmp rfl .nil) (by rw [← i.h,List.drop_of_length_le (by simp at hc1;omega)];rfl) (fun _ _=>trivial)
theorem DE {w:World} {F:Gs} {q:Option Addr} {n c:Nat} {l:List (List UInt8)} (hF:Fits F w) (hG:JC F) (hR:JF F q n 1 (l.map tx)) (hl:n≤1000000∧∀ s∈l,s.length≤1000000):QW Tryz.prog 121 [.slice q n c] w F (.int .i64 (Qj (l.map Qp))):=by
 have hln:l.length=n:=by have:=hR.1;simpa using this
 refine QT.intro (G:=fun F=>JC F∧JF F q n 1 (l.map tx)) Tryz.func121 rfl (by rfl) rfl rfl hF (fun F' hF'=>⟨hG.le hF',hR.le hF'⟩)<|QG<|QB<|QA (QE rfl)<|QF<|QD<|QG<|QB<|QA (QC rfl) ?_
 refine QH rfl (fun w F hF ⟨hGl,hR⟩=>Lj (c1:=[]) (c2:=[]) (vs:=fun i=>tx (l.getD i [])) (es:=l.map Qp) (G0:=JC) hF (fun _ _ h k=>k.le h) hGl hR (by simpa using hln) (by omega) (fun i hi=>by
  have:i<l.length:=by omega
  simp [this]) (fun i hi w F hF hG=>by
  have hi':i<l.length:=by simpa using hi
  have e:l.getD i []=l[i]:=by simp [hi']
  have:=DD hF hG (hl.2 l[i] (List.getElem_mem hi'))
  rw [List.getElem_map]
  show QW _ _ [tx (l.getD i [])] _ _ _
  rw [e];exact this)) (fun c4=>?_)
 refine QA (QE rfl)<|QF<|QD<|QS ?_
 exact QQ () rfl (.tmp rfl .nil) rfl (fun _ _=>trivial)
def Kt (r:Rat):List UInt8×Int:=if Xk r=true then([],4) else(JJ r,0)
theorem SQ {w:World} {F:Gs} {x:Fr} {r:Rat} (hF:Fits F w) (hG:JC F) (h:JV F x r) (hz:JX r≤100000000):QW Tryz.prog 106 [x.v] w F (.tuple #[tx (Kt r).1,.int .i64 (Kt r).2]):=by
 refine QT.intro (G:=fun F=>JC F∧JV F x r) Tryz.func106 rfl (by rfl) rfl rfl hF (fun F' hF'=>⟨hG.le hF',h.le hF'⟩)<|QG<|QB<|Q5 rfl (vs:=[_,_,_,_]) rfl (fun b1=>QA (QE rfl)<|QA (QE rfl)<|QF<|QD<|QG<|QG<|QB<|QA (QL (vs:=[_,_,_,_]) rfl Qg .here (.here (.here (.here (.here .nil)))) rfl)<|QH rfl (fun w F hF ⟨hGl,⟨hn,hd⟩⟩=>Bu (x:=x) (r:=r) hF hGl ⟨hn,hd⟩ hz) (fun _=>QF<|QD ?_))
 refine QO rfl (fun hc=>?_) (fun hc=>?_)
 ·
  refine QG<|QB<|QA (QE rfl)<|QA (QE rfl)<|QF<|QD<|QS ?_
  exact JH () rfl (.tmp rfl (.tmp rfl .nil)) (by unfold Kt;rw [if_pos hc]) (fun _ _=>trivial)
 ·
  refine QN<|QD<|QG<|QB<|QA (QL (vs:=[_,_,_,_]) rfl Qg .here (.here (.here (.here (.here .nil)))) rfl)<|QH rfl (fun w F hF ⟨⟨hGl,⟨hn,hd⟩⟩,_⟩=>ME (x:=x) (r:=r) hF hGl ⟨hn,hd⟩ hz) (fun _=>QA (QE rfl)<|QA (QE rfl)<|QF<|QD<|QS ?_)
  exact JH () rfl (.tmp rfl (.tmp rfl .nil)) (by unfold Kt;rw [if_neg (by rw [hc];decide)]) (fun _ _=>trivial)
theorem Uz {w:World} {F:Gs} {b:Int} (hF:Fits F w):QW Tryz.prog 105 [.int .i64 b] w F (.int .i64 (if b<0∨b>64 then 3 else 0)):=by
 refine QT.intro (G:=fun _=>True) Tryz.func105 rfl (by rfl) rfl rfl hF (fun F' hF'=>trivial)<|QG<|QB<|QA (QE rfl)<|QF<|QD<|QG<|QB<|QA (QC rfl)<|QA (QU rfl rfl rfl)<|QA (QC rfl) ?_
 refine Qk (t:=5) rfl (fun hb5=>?_) (fun hb5=>?_)
 ·
  refine QR rfl rfl rfl<|QR rfl rfl rfl<|QA (Qi rfl rfl rfl)<|QH rfl (fun w F hF _=>Zx hF ) (fun _=>QA (QE rfl)<|QF<|QD<|QS ?_)
  exact QQ () rfl (.tmp rfl .nil) (congrArg (Value.int .i64) (by simp at *;try omega)) (fun _ _=>trivial)
 ·
  refine QJ rfl rfl<|QA (QC rfl)<|QJ rfl rfl<|QA (QU rfl rfl rfl)<|QA (Qh rfl rfl rfl)<|QH rfl (fun w F hF _=>Zx hF ) (fun _=>QA (QE rfl)<|QF<|QD<|QS ?_)
  exact QQ () rfl (.tmp rfl .nil) (congrArg (Value.int .i64) (by simp at *;try omega)) (fun _ _=>trivial)
theorem FG {w:World} {F:Gs} {b:Int} (hF:Fits F w) (h0:0≤b) (h1:b≤64):Xg Tryz.prog 111 [.int .i64 b] w F (2^b.toNat):=by
 refine QT.intro (G:=fun _=>True) Tryz.func111 rfl (by rfl) rfl rfl hF (fun F' hF'=>trivial)<|QG<|QB<|QZ ZX (fun b2=>QF<|QD<|QG<|QB<|QH rfl (fun w F hF _=>NK hF (by omega) (by omega)) (fun g3=>QA (QC rfl)<|QH rfl (fun w F hF ⟨_,h3⟩=>Th hF (by assumption) h0 (by omega) (by have e:sz 2=2:=(by decide);rw [e];omega)) (fun g5=>QP (vs:=[_,_]) rfl rfl rfl QY rfl .here (.here (.here .nil)) ⟨rfl,rfl,trivial⟩<|QF<|QD<|QS ?_)))
 exact QQ (_) rfl (.Ja (c:=[_,_]) rfl QY .here .nil) rfl (fun F ⟨⟨_,h3⟩,h5⟩=>h5)
theorem NI {w:World} {F:Gs} {g:Bg} {a b:Int} (hF:Fits F w) (h:Jr F g a) (h0:0≤b) (h1:b≤64) (hz:sz a≤100000000):X0 Tryz.prog 107 [g.v,.int .i64 b] w F (Rat.divInt a (2^b.toNat)):=by
 refine QT.intro (G:=fun F=>Jr F g a) Tryz.func107 rfl (by rfl) rfl rfl hF (fun F' hF'=>h.le hF')<|QG<|QB<|Q5 rfl (vs:=[_,_]) rfl (fun b2=>QZ X1 (fun b4=>QF<|QD<|QG<|JQ (.cons _ (.cons_cons _ .slnil)) mixed (by kernel_rfl)<|QM (QL (vs:=[_,_]) rfl QY .here (.here (.here .nil)) rfl)<|QM (QC rfl)<|Qb rfl (fun w F hF hB=>FG hF h0 h1) (fun g7=>Qb rfl (fun w F hF ⟨hB,h7⟩=>NV hF hB (by assumption) (Int.ne_of_gt (Int.pow_pos (by decide))) (Nat.le_trans hz (by decide)) (by have:=Hk 2 b.toNat;have e:sz 2=2:=(by decide);rw [e] at this;omega)) (fun x8=>JY (vs:=[_,_,_,_]) rfl rfl rfl Qg rfl .here (.cons_cons _ .slnil) (fun _ h=>h.1.1) (.here (.here (.here (.here .nil)))) ⟨rfl,rfl,rfl,rfl,trivial⟩<|Q3<|QD<|QS ?_))))
 exact QQ (_) rfl (.Ja (c:=[_,_,_,_]) rfl Qg .here .nil) rfl (fun F ⟨⟨hB,h7⟩,⟨h8,h8_⟩⟩=>⟨h8,h8_⟩)
end
section
open Go.RowKit Ig
def PV (b:Int):Int:=if b<0∨b>64 then 3 else 0
theorem X7 {a b:Int} (h:Qj [a,b]=0):a=0∧b=0:=by
 simp only [Qj] at h
 by_cases h1:a=0
 ·rw [if_pos h1] at h
  by_cases h2:b=0
  ·exact⟨h1,h2⟩
  ·rw [if_neg h2] at h;exact absurd h h2
 ·rw [if_neg h1] at h;exact absurd h h1
theorem Ic {b:Int} (h:PV b=0):0≤b∧b≤64:=by unfold PV at h;split at h<;>omega
def two (b:Int):Int:=2^b.toNat
theorem OU {b:Int} (h1:b≤64):sz (two b)≤129:=by
 have:=Hk 2 b.toNat;have e:sz 2=2:=(by decide);rw [e] at this;unfold two;omega
theorem Rf {b:Int} (h1:b≤64):JX ((two b:Int):Rat)≤129:=by
 have:=Gc (two b);have:=OU h1;omega
def Ce (r:Rat) (b:Int):Rat:=Rat.divInt (r*((two b:Int):Rat)+Rat.divInt 1 2).floor (two b)
def Tz (s:List UInt8) (b:Int):List UInt8×Int:=if Qj [Qp s,PV b]=0 then Kt (Ce (JA s) b) else([],Qj [Qp s,PV b])
theorem zD (b:Int):two b≠0:=Int.ne_of_gt (Int.pow_pos (by decide))
theorem Ix:JX (Rat.divInt 1 2)≤2:=by
 have:=YV (a:=1) (b:=2) (by decide)
 have e1:sz 1=1:=by decide
 have e2:sz 2=2:=by decide
 omega
theorem jT {r:Rat} {b:Int} {k:Nat} (h:JX r≤k) (h1:b≤64):sz (r*((two b:Int):Rat)+Rat.divInt 1 2).floor≤k+132:=by
 have a:=J2 r ((two b:Int):Rat)
 have c:=Yr (r*((two b:Int):Rat)) (Rat.divInt 1 2)
 have d:=Ix
 have e:=Rf h1
 have f:=V7 (r*((two b:Int):Rat)+Rat.divInt 1 2)
 omega
theorem Mt {n b:Int} {k:Nat} (h:sz n≤k) (h1:b≤64):JX (Rat.divInt n (two b))≤max k 129:=by
 have:=YV (a:=n) (zD b)
 have:=OU h1
 omega
theorem LO {w:World} {F:Gs} {s:List UInt8} {b:Int} (hF:Fits F w) (hG:JC F) (hl:s.length≤1000000):QW Tryz.prog 17 [tx s,.int .i64 b] w F (.tuple #[tx (Tz s b).1,.int .i64 (Tz s b).2]):=by
 refine QT.intro (G:=fun F=>JC F) Tryz.func17 rfl (by rfl) rfl rfl hF (fun F' hF'=>hG.le hF')<|QG<|QB<|QA (QE rfl)<|QA (QE rfl)<|QF<|QD<|QG<|QG<|QB<|QA (QC rfl)<|QH rfl (fun w F hF hGl=>DD hF hGl hl) (fun _=>QA (QC rfl)<|QH rfl (fun w F hF ⟨hGl,_⟩=>Uz hF ) (fun _=>QV rfl (Q8 Zn) Y3 BA rfl rfl (fun b11=>QH rfl (fun w F hF ⟨⟨⟨hGl,_⟩,_⟩,hs11⟩=>YB hF (JF.of (cs:=List.map Qz [Qp s,PV b]) hs11 rfl) (by decide)) (fun _=>QA (QE rfl)<|QF<|QD<|QG<|QB<|QA (QC rfl)<|QA (QU rfl rfl rfl)<|QF<|QD ?_))))
 refine QO rfl (fun hc=>?_) (fun hc=>?_)
 ·
  refine QG<|QB<|QA (QC rfl)<|QA (QE rfl)<|QA (QE rfl)<|QF<|QD<|QS ?_
  exact JH () rfl (.tmp rfl (.tmp rfl .nil)) (by unfold Tz;rw [if_neg (by simpa using hc)]) (fun _ _=>trivial)
 ·
  have h0:Qj [Qp s,PV b]=0:=by simpa using hc
  have h1:=X7 h0
  have hb:=Ic h1.2
  have hz:=Q7 h1.1
  have ht:=Rf hb.2
  have hm:=J2 (JA s) ((two b:Int):Rat)
  have hn:=jT hz hb.2
  refine QN<|QD<|QG<|QB<|QA (QC rfl)<|QH rfl (fun w F hF ⟨⟨⟨⟨hGl,_⟩,_⟩,hs11⟩,_⟩=>Kh hF hGl (Jq h1.1).1 (by omega)) (fun x17=>QA (QC rfl)<|QH rfl (fun w F hF ⟨⟨⟨⟨⟨hGl,_⟩,_⟩,hs11⟩,_⟩,⟨h17,h17_⟩⟩=>FG hF hb.1 hb.2) (fun g19=>QH rfl (fun w F hF ⟨⟨⟨⟨⟨⟨hGl,_⟩,_⟩,hs11⟩,_⟩,⟨h17,h17_⟩⟩,Bq⟩=>GY hF (by assumption)) (fun x20=>QH rfl (fun w F hF ⟨⟨⟨⟨⟨⟨⟨hGl,_⟩,_⟩,hs11⟩,_⟩,⟨h17,h17_⟩⟩,Bq⟩,⟨h20,h20_⟩⟩=>KC (r:=JA s) (s:=((two b:Int):Rat)) hF ⟨h17,h17_⟩ ⟨h20,h20_⟩ (by omega) (by omega)) (fun x21=>QH rfl (fun w F hF ⟨⟨⟨⟨⟨⟨⟨⟨hGl,_⟩,_⟩,hs11⟩,_⟩,⟨h17,h17_⟩⟩,Bq⟩,⟨h20,h20_⟩⟩,⟨h21,h21_⟩⟩=>Cx (r:=JA s*((two b:Int):Rat)) hF ⟨h21,h21_⟩ (by omega)) (fun g22=>QA (QC rfl)<|QH rfl (fun w F hF ⟨⟨⟨⟨⟨⟨⟨⟨⟨hGl,_⟩,_⟩,hs11⟩,_⟩,⟨h17,h17_⟩⟩,Bq⟩,⟨h20,h20_⟩⟩,⟨h21,h21_⟩⟩,h22⟩=>NI (a:=(JA s*((two b:Int):Rat)+Rat.divInt 1 2).floor) hF h22 hb.1 hb.2 (by omega)) (fun x24=>QH rfl (fun w F hF ⟨⟨⟨⟨⟨⟨⟨⟨⟨⟨hGl,_⟩,_⟩,hs11⟩,_⟩,⟨h17,h17_⟩⟩,Bq⟩,⟨h20,h20_⟩⟩,⟨h21,h21_⟩⟩,h22⟩,⟨h24,h24_⟩⟩=>SQ (r:=Ce (JA s) b) hF hGl ⟨h24,h24_⟩ (by have:=Mt hn hb.2;unfold Ce;omega)) (fun _=>QA (QK rfl rfl)<|QA (QK rfl rfl)<|QA (QE rfl)<|QA (QE rfl)<|QF<|QD<|QS ?_)))))))
  exact JH () rfl (.tmp rfl (.tmp rfl .nil)) (by unfold Tz;rw [if_pos h0];rfl) (fun _ _=>trivial)
def XR (lo hi:List UInt8):Int:=if Qj [Qp lo,Qp hi]=0 then(if Wz (JA lo) (JA hi)>0 then 11 else 0) else Qj [Qp lo,Qp hi]
theorem VC {lo hi:List UInt8} (h:XR lo hi=0):Qp lo=0∧Qp hi=0∧¬ Wz (JA lo) (JA hi)>0:=by
 unfold XR at h
 split at h
 ·rename_i h0
  have:=X7 h0
  refine⟨this.1,this.2,?_⟩
  split at h
  ·cases h
  ·assumption
 ·rename_i h0;exact absurd h h0
theorem KX {w:World} {F:Gs} {lo hi:List UInt8} (hF:Fits F w) (hG:JC F) (hl:lo.length≤1000000∧hi.length≤1000000):QW Tryz.prog 22 [.agg #[tx lo,tx hi]] w F (.int .i64 (XR lo hi)):=by
 refine QT.intro (G:=fun F=>JC F) Tryz.func22 rfl (by rfl) rfl rfl hF (fun F' hF'=>hG.le hF')<|QG<|QB<|Q5 rfl (vs:=[_,_]) rfl (fun b1=>QA (QE rfl)<|QF<|QD<|QG<|QG<|QB<|QA (QI rfl FN X2)<|QA (Qn rfl X2 .here (.here .nil))<|QA (QI rfl FM X2)<|QA (Qn rfl X2 .here (.skip (.here .nil)))<|QV rfl (Q8 BO) X2 OG rfl rfl (fun b8=>QH rfl (fun w F hF ⟨hGl,hs8⟩=>DE (l:=[lo,hi]) hF hGl (JF.of (cs:=List.map tx [lo,hi]) hs8 rfl) ⟨by decide,fun s hs=>by simp at hs;rcases hs with rfl | rfl;exact hl.1;exact hl.2⟩) (fun _=>QA (QE rfl)<|QF<|QD<|QG<|QB<|QA (QC rfl)<|QA (QU rfl rfl rfl)<|QF<|QD ?_)))
 refine QO rfl (fun hc=>?_) (fun hc=>?_)
 ·
  refine QG<|QB<|QA (QC rfl)<|QA (QE rfl)<|QF<|QD<|QS ?_
  exact QQ () rfl (.tmp rfl .nil) (by unfold XR;rw [if_neg (by simpa using hc)];rfl) (fun _ _=>trivial)
 ·
  have h0:Qj [Qp lo,Qp hi]=0:=by simpa using hc
  have h1:=X7 h0
  have hz1:=Q7 h1.1
  have hz2:=Q7 h1.2
  refine QN<|QD<|QG<|JQ (List.Sublist.refl _) mixed (by kernel_rfl)<|QM (QI rfl FN X2)<|QM (Qn rfl X2 .here (.here .nil))<|Qb rfl (fun w F hF ⟨⟨hGl,hs8⟩,_⟩=>Kh hF hGl (Jq h1.1).1 (by omega)) (fun x15=>QM (QI rfl FM X2)<|QM (Qn rfl X2 .here (.skip (.here .nil)))<|Qb rfl (fun w F hF ⟨⟨⟨hGl,hs8⟩,_⟩,⟨h15,h15_⟩⟩=>Kh hF hGl (Jq h1.2).1 (by omega)) (fun x18=>Qb rfl (fun w F hF ⟨⟨⟨⟨hGl,hs8⟩,_⟩,⟨h15,h15_⟩⟩,⟨h18,h18_⟩⟩=>SV (r:=JA lo) (s:=JA hi) hF ⟨h15,h15_⟩ ⟨h18,h18_⟩ (by omega) (by omega)) (fun _=>QM (QU rfl rfl rfl)<|Qb rfl (fun w F hF ⟨⟨⟨⟨⟨hGl,hs8⟩,_⟩,⟨h15,h15_⟩⟩,⟨h18,h18_⟩⟩,_⟩=>Zx hF ) (fun _=>QM (QE rfl)<|Q3<|QD<|QS ?_))))
  exact QQ () rfl (.tmp rfl .nil) (congrArg (Value.int .i64) (by unfold XR;rw [if_pos h0];simp)) (fun _ _=>trivial)
structure Sp where
 lo:Fr
 hi:Fr
@[reducible] def Sp.v (x:Sp):Value:=.agg #[.int .i64 x.lo.n.s,.slice x.lo.n.q x.lo.n.n x.lo.n.cap,.int .i64 x.lo.d.s,.slice x.lo.d.q x.lo.d.n x.lo.d.cap,.int .i64 x.hi.n.s,.slice x.hi.n.q x.hi.n.n x.hi.n.cap,.int .i64 x.hi.d.s,.slice x.hi.d.q x.hi.d.n x.hi.d.cap]
def ZV (F:Gs) (x:Sp) (r:Rat×Rat):Prop:=JV F x.lo r.1∧JV F x.hi r.2
theorem ZV.le {F F':Gs} {x:Sp} {r:Rat×Rat} (h:ZV F x r) (k:Gs.le F F'):ZV F' x r:=⟨h.1.le k,h.2.le k⟩
abbrev VE (P:Program) (f:FuncId) (args:List Value) (w:World) (F:Gs) (r:Rat×Rat):Prop:=QT P f args w F Sp.v (fun x F=>ZV F x r)
theorem NG {w:World} {F:Gs} {lo hi:List UInt8} (hF:Fits F w) (hG:JC F) (h1:Qp lo=0) (h2:Qp hi=0) (hl:lo.length≤1000000∧hi.length≤1000000):VE Tryz.prog 113 [.agg #[tx lo,tx hi]] w F (JA lo,JA hi):=by
 refine QT.intro (G:=fun F=>JC F) Tryz.func113 rfl (by rfl) rfl rfl hF (fun F' hF'=>hG.le hF')<|QG<|QB<|Q5 rfl (vs:=[_,_]) rfl (fun b1=>QZ Y2 (fun b2=>QF<|QD<|QG<|JQ (.cons _ (.cons_cons _ .slnil)) mixed (by kernel_rfl)<|QM (QI rfl FN X2)<|QM (Qn rfl X2 .here (.here .nil))<|Qb rfl (fun w F hF hGl=>Kh hF hGl (Jq h1).1 (by omega)) (fun x5=>QM (QI rfl FM X2)<|QM (Qn rfl X2 .here (.skip (.here .nil)))<|Qb rfl (fun w F hF ⟨hGl,⟨h5,h5_⟩⟩=>Kh hF hGl (Jq h2).1 (by omega)) (fun x8=>QM (Q9 rfl R2 Y2 (.cons (vs:=[_,_,_,_]) rfl rfl rfl (.here (.here (.here (.here .nil)))) (.cons (vs:=[_,_,_,_]) rfl rfl rfl (.skip (.skip (.skip (.skip (.here (.here (.here (.here .nil)))))))) .nil)))<|JY (vs:=[_,_,_,_,_,_,_,_]) rfl rfl rfl XL rfl .here (.cons_cons _ .slnil) (fun _ h=>h.1.1) (.here (.here (.here (.here (.here (.here (.here (.here .nil)))))))) ⟨rfl,rfl,rfl,rfl,rfl,rfl,rfl,rfl,trivial⟩<|Q3<|QD<|QS ?_))))
 exact QQ ((⟨x5,x8⟩:Sp)) rfl (.Ja (c:=[_,_,_,_,_,_,_,_]) rfl XL .here .nil) rfl (fun F ⟨⟨hGl,⟨h5,h5_⟩⟩,⟨h8,h8_⟩⟩=>⟨⟨h5,h5_⟩,⟨h8,h8_⟩⟩)
def Bs (r:Rat×Rat):(List UInt8×List UInt8)×Int:=if(Xk r.1||Xk r.2)=true then(([],[]),4) else((JJ r.1,JJ r.2),0)
theorem E4 {w:World} {F:Gs} {x:Sp} {r:Rat×Rat} (hF:Fits F w) (hG:JC F) (h:ZV F x r) (hz:JX r.1≤100000000∧JX r.2≤100000000):QW Tryz.prog 116 [x.v] w F (.tuple #[.agg #[tx (Bs r).1.1,tx (Bs r).1.2],.int .i64 (Bs r).2]):=by
 refine QT.intro (G:=fun F=>JC F∧ZV F x r) Tryz.func116 rfl (by rfl) rfl rfl hF (fun F' hF'=>⟨hG.le hF',h.le hF'⟩)<|QG<|QB<|Q5 rfl (vs:=[_,_,_,_,_,_,_,_]) rfl (fun b1=>QZ Yp (fun b2=>QA (QE rfl)<|QF<|QD<|QG ?_))
 refine Vd 11 (.bool (Xk r.1||Xk r.2)) ?_ ?_
 ·
  refine QB<|QA (QI rfl Zt Qg)<|QA (QL (vs:=[_,_,_,_]) rfl Qg (.there .here) (.here (.here (.here (.here .nil)))) rfl)<|QH rfl (fun w F hF ⟨hGl,⟨⟨ha,hb⟩,⟨hc1,hd⟩⟩⟩=>Bu (x:=x.lo) (r:=r.1) hF hGl ⟨ha,hb⟩ hz.1) (fun _=>QA (QC rfl) ?_)
  refine Qk (t:=7) rfl (fun hb7=>?_) (fun hb7=>?_)
  ·
   refine QR rfl rfl rfl<|QR rfl rfl rfl<|QR rfl rfl rfl<|QA (Qi rfl rfl rfl)<|QF ?_
   exact Jp (.cons rfl (.cons rfl (.cons rfl (.cons rfl (.cons rfl (.cons rfl (.cons rfl (.cons rfl (.cons rfl .refl))))))))) (congrArg (fun b=>some (Value.bool b)) (by simp_all)) (List.Sublist.refl _) (fun _ h=>h.1)
  ·
   refine QJ rfl rfl<|QA (QI rfl YD Qg)<|QJ rfl rfl<|QA (QL (vs:=[_,_,_,_]) rfl Qg (.there .here) (.skip (.skip (.skip (.skip (.here (.here (.here (.here .nil)))))))) rfl)<|QJ rfl rfl<|QH rfl (fun w F hF ⟨⟨hGl,⟨⟨ha,hb⟩,⟨hc1,hd⟩⟩⟩,_⟩=>Bu (x:=x.hi) (r:=r.2) hF hGl ⟨hc1,hd⟩ hz.2) (fun _=>QA (Qh rfl rfl rfl)<|QF ?_)
   exact Jp (.cons rfl (.cons rfl (.cons rfl (.cons rfl (.cons rfl (.cons rfl (.cons rfl (.cons rfl (.cons rfl .refl))))))))) (congrArg (fun b=>some (Value.bool b)) (by simp_all)) (List.Sublist.refl _) (fun _ h=>h.1.1)
 ·
  refine QO rfl (fun hc=>?_) (fun hc=>?_)
  ·
   refine QG<|QB<|QA (Q9 rfl KR Yp .nil)<|QP (vs:=[_,_]) rfl rfl rfl Jw rfl .here (.here (.here .nil)) ⟨rfl,rfl,trivial⟩<|QA (QE rfl)<|QF<|QD<|QS ?_
   exact JH () rfl (.Ja (c:=[_,_]) rfl Jw .here (.tmp rfl .nil)) (by unfold Bs;rw [if_pos hc];rfl) (fun _ _=>trivial)
  ·
   refine QN<|QD<|QG<|JQ (.cons _ (.cons_cons _ .slnil)) mixed (by kernel_rfl)<|QM (QI rfl Zt Qg)<|QM (QL (vs:=[_,_,_,_]) rfl Qg .here (.here (.here (.here (.here .nil)))) rfl)<|Qb rfl (fun w F hF ⟨hGl,⟨⟨ha,hb⟩,⟨hc1,hd⟩⟩⟩=>ME (x:=x.lo) (r:=r.1) hF hGl ⟨ha,hb⟩ hz.1) (fun _=>QM (QI rfl YD Qg)<|QM (QL (vs:=[_,_,_,_]) rfl Qg .here (.skip (.skip (.skip (.skip (.here (.here (.here (.here .nil)))))))) rfl)<|Qb rfl (fun w F hF ⟨⟨hGl,⟨⟨ha,hb⟩,⟨hc1,hd⟩⟩⟩,_⟩=>ME (x:=x.hi) (r:=r.2) hF hGl ⟨hc1,hd⟩ hz.2) (fun _=>QM (Q9 rfl KR Yp (.cons (vs:=[_]) rfl rfl rfl (.here .nil) (.cons (vs:=[_]) rfl rfl rfl (.skip (.here .nil)) .nil)))<|JY (vs:=[_,_]) rfl rfl rfl Jw rfl .here (.cons_cons _ .slnil) (fun _ h=>h.1.1) (.here (.here .nil)) ⟨rfl,rfl,trivial⟩<|QM (QE rfl)<|Q3<|QD<|QS ?_))
   exact JH () rfl (.Ja (c:=[_,_]) rfl Jw .here (.tmp rfl .nil)) (by unfold Bs;rw [if_neg (by rw [hc];decide)]) (fun _ _=>trivial)
def kH (r:Rat×Rat) (b:Int):Rat×Rat:=(Rat.divInt (r.1*((two b:Int):Rat)).floor (two b),Rat.divInt (-(-(r.2*((two b:Int):Rat))).floor) (two b))
def LH (lo hi:List UInt8) (b:Int):(List UInt8×List UInt8)×Int:=if Qj [XR lo hi,PV b]=0 then Bs (kH (JA lo,JA hi) b) else(([],[]),Qj [XR lo hi,PV b])
theorem LG {w:World} {F:Gs} {lo hi:List UInt8} {b:Int} (hF:Fits F w) (hG:JC F) (hl:lo.length≤1000000∧hi.length≤1000000):QW Tryz.prog 18 [.agg #[tx lo,tx hi],.int .i64 b] w F (.tuple #[.agg #[tx (LH lo hi b).1.1,tx (LH lo hi b).1.2],.int .i64 (LH lo hi b).2]):=by
 refine QT.intro (G:=fun F=>JC F) Tryz.func18 rfl (by rfl) rfl rfl hF (fun F' hF'=>hG.le hF')<|QG<|QB<|Q5 rfl (vs:=[_,_]) rfl (fun b2=>QZ Yp (fun b4=>QA (QE rfl)<|QF<|QD<|QG<|QG<|QB<|QA (QL (vs:=[_,_]) rfl Jw (.there .here) (.here (.here .nil)) rfl)<|QH rfl (fun w F hF hGl=>KX (lo:=lo) (hi:=hi) hF hGl hl) (fun _=>QA (QC rfl)<|QH rfl (fun w F hF ⟨hGl,_⟩=>Uz hF ) (fun _=>QV rfl (Q8 Zn) Y3 BA rfl rfl (fun b13=>QH rfl (fun w F hF ⟨⟨⟨hGl,_⟩,_⟩,hs13⟩=>YB hF (JF.of (cs:=List.map Qz [XR lo hi,PV b]) hs13 rfl) (by decide)) (fun _=>QA (QE rfl)<|QF<|QD<|QG<|QB<|QA (QC rfl)<|QA (QU rfl rfl rfl)<|QF ?_))))))
 refine QD ?_
 refine QO rfl (fun hc=>?_) (fun hc=>?_)
 ·
  refine QG<|QB<|QA (Q9 rfl KR Yp .nil)<|QA (QC rfl)<|QP (vs:=[_,_]) rfl rfl rfl Jw rfl .here (.here (.here .nil)) ⟨rfl,rfl,trivial⟩<|QA (QE rfl)<|QF<|QD<|QS ?_
  exact JH () rfl (.Ja (c:=[_,_]) rfl Jw .here (.tmp rfl .nil)) (by unfold LH;rw [if_neg (by simpa using hc)];rfl) (fun _ _=>trivial)
 ·
  have h0:Qj [XR lo hi,PV b]=0:=by simpa using hc
  have h1:=X7 h0
  have hok:=VC h1.1
  have hb:=Ic h1.2
  have hz1:=Q7 hok.1
  have hz2:=Q7 hok.2.1
  have ht:=Rf hb.2
  have hm1:=J2 (JA lo) ((two b:Int):Rat)
  have hm2:=J2 (JA hi) ((two b:Int):Rat)
  have hf1:=V7 (JA lo*((two b:Int):Rat))
  have hf2:=V7 (-(JA hi*((two b:Int):Rat)))
  rw [Gb] at hf2
  have hg1:=Mt (n:=(JA lo*((two b:Int):Rat)).floor) (k:=2529) (by omega) hb.2
  have hg2:=Mt (n:=-(-(JA hi*((two b:Int):Rat))).floor) (k:=2529) (by rw [YF];omega) hb.2
  refine QN<|QD<|QG<|QB<|QA (QL (vs:=[_,_]) rfl Jw (.there .here) (.here (.here .nil)) rfl)<|QH rfl (fun w F hF ⟨⟨⟨⟨hGl,_⟩,_⟩,hs13⟩,_⟩=>NG hF hGl hok.1 hok.2.1 hl) (fun x20=>QA (QC rfl)<|QH rfl (fun w F hF ⟨⟨⟨⟨⟨hGl,_⟩,_⟩,hs13⟩,_⟩,⟨⟨h20,h20_⟩,⟨h20a,h20b⟩⟩⟩=>FG hF hb.1 hb.2) (fun g22=>QH rfl (fun w F hF ⟨⟨⟨⟨⟨⟨hGl,_⟩,_⟩,hs13⟩,_⟩,⟨⟨h20,h20_⟩,⟨h20a,h20b⟩⟩⟩,h22⟩=>GY hF (by assumption)) (fun x23=>QZ Y2 (fun b7=>QZ X1 (fun b8=>QP (vs:=[_,_,_,_,_,_,_,_]) rfl rfl rfl XL rfl (.there .here) (.here (.here (.here (.here (.here (.here (.here (.here .nil)))))))) ⟨rfl,rfl,rfl,rfl,rfl,rfl,rfl,rfl,trivial⟩<|QP (vs:=[_,_,_,_]) rfl rfl rfl Qg rfl .here (.here (.here (.here (.here .nil)))) ⟨rfl,rfl,rfl,rfl,trivial⟩<|QF<|QD<|QG<|JQ (.cons_cons _ (.cons_cons _ (.cons _ (.cons_cons _ .slnil)))) mixed (by kernel_rfl)<|QM (QI rfl Zt Qg)<|QM (QL (vs:=[_,_,_,_]) rfl Qg (.there .here) (.here (.here (.here (.here .nil)))) rfl)<|QM (QL (vs:=[_,_,_,_]) rfl Qg .here (.here (.here (.here (.here .nil)))) rfl)<|Qb rfl (fun w F hF ⟨⟨⟨⟨⟨⟨⟨hGl,_⟩,_⟩,hs13⟩,_⟩,⟨⟨h20,h20_⟩,⟨h20a,h20b⟩⟩⟩,h22⟩,⟨h23,h23_⟩⟩=>KC (r:=JA lo) (s:=((two b:Int):Rat)) hF ⟨h20,h20_⟩ ⟨h23,h23_⟩ (by omega) (by omega)) (fun x27=>Qb rfl (fun w F hF ⟨⟨⟨⟨⟨⟨⟨⟨hGl,_⟩,_⟩,hs13⟩,_⟩,⟨⟨h20,h20_⟩,⟨h20a,h20b⟩⟩⟩,h22⟩,⟨h23,h23_⟩⟩,⟨h27,h27_⟩⟩=>Bv (r:=JA lo*((two b:Int):Rat)) hF ⟨h27,h27_⟩ (by omega)) (fun g28=>QM (QC rfl)<|Qb rfl (fun w F hF ⟨⟨⟨⟨⟨⟨⟨⟨⟨hGl,_⟩,_⟩,hs13⟩,_⟩,⟨⟨h20,h20_⟩,⟨h20a,h20b⟩⟩⟩,h22⟩,⟨h23,h23_⟩⟩,⟨h27,h27_⟩⟩,h28⟩=>NI (a:=(JA lo*((two b:Int):Rat)).floor) hF h28 hb.1 hb.2 (by omega)) (fun x30=>QM (QI rfl YD Qg) ?_))))))))
  refine QM (QL (vs:=[_,_,_,_]) rfl Qg (.there .here) (.skip (.skip (.skip (.skip (.here (.here (.here (.here .nil)))))))) rfl)<|QM (QL (vs:=[_,_,_,_]) rfl Qg .here (.here (.here (.here (.here .nil)))) rfl)<|Qb rfl (fun w F hF ⟨⟨⟨⟨⟨⟨⟨⟨⟨⟨hGl,_⟩,_⟩,hs13⟩,_⟩,⟨⟨h20,h20_⟩,⟨h20a,h20b⟩⟩⟩,h22⟩,⟨h23,h23_⟩⟩,⟨h27,h27_⟩⟩,h28⟩,⟨h30,h30_⟩⟩=>KC (r:=JA hi) (s:=((two b:Int):Rat)) hF ⟨h20a,h20b⟩ ⟨h23,h23_⟩ (by omega) (by omega)) (fun x34=>Qb rfl (fun w F hF ⟨⟨⟨⟨⟨⟨⟨⟨⟨⟨⟨hGl,_⟩,_⟩,hs13⟩,_⟩,⟨⟨h20,h20_⟩,⟨h20a,h20b⟩⟩⟩,h22⟩,⟨h23,h23_⟩⟩,⟨h27,h27_⟩⟩,h28⟩,⟨h30,h30_⟩⟩,⟨h34,h34_⟩⟩=>jw (r:=JA hi*((two b:Int):Rat)) hF ⟨h34,h34_⟩ (by omega)) (fun g35=>QM (QC rfl)<|Qb rfl (fun w F hF ⟨⟨⟨⟨⟨⟨⟨⟨⟨⟨⟨⟨hGl,_⟩,_⟩,hs13⟩,_⟩,⟨⟨h20,h20_⟩,⟨h20a,h20b⟩⟩⟩,h22⟩,⟨h23,h23_⟩⟩,⟨h27,h27_⟩⟩,h28⟩,⟨h30,h30_⟩⟩,⟨h34,h34_⟩⟩,h35⟩=>NI (a:=-(-(JA hi*((two b:Int):Rat))).floor) hF h35 hb.1 hb.2 (by rw [YF];omega)) (fun x37=>QM (Q9 rfl R2 Y2 (.cons (vs:=[_,_,_,_]) rfl rfl rfl (.here (.here (.here (.here .nil)))) (.cons (vs:=[_,_,_,_]) rfl rfl rfl (.skip (.skip (.skip (.skip (.here (.here (.here (.here .nil)))))))) .nil)))<|Qb rfl (fun w F hF ⟨⟨⟨⟨⟨⟨⟨⟨⟨⟨⟨⟨⟨hGl,_⟩,_⟩,hs13⟩,_⟩,⟨⟨h20,h20_⟩,⟨h20a,h20b⟩⟩⟩,h22⟩,⟨h23,h23_⟩⟩,⟨h27,h27_⟩⟩,h28⟩,⟨h30,h30_⟩⟩,⟨h34,h34_⟩⟩,h35⟩,⟨h37,h37_⟩⟩=>E4 (x:=⟨x30,x37⟩) (r:=kH (JA lo,JA hi) b) hF hGl ⟨⟨h30,h30_⟩,⟨h37,h37_⟩⟩ ⟨Nat.le_trans hg1 (by decide),Nat.le_trans hg2 (by decide)⟩) (fun _=>QM (QK rfl rfl)<|QM (QK rfl rfl)<|JY (vs:=[_,_]) rfl rfl rfl Jw rfl (.there (.there .here)) (.cons_cons _ (.cons_cons _ (.cons_cons _ .slnil))) (fun _ h=>h.1.1.1.1.1.1.1) (.here (.here .nil)) ⟨rfl,rfl,trivial⟩<|QM (QE rfl)<|Q3<|QD<|QS ?_))))
  exact JH () rfl (.Ja (c:=[_,_]) rfl Jw (.there (.there .here)) (.tmp rfl .nil)) (by unfold LH;rw [if_pos h0];rfl) (fun _ _=>trivial)
end
section
open Go.RowKit Ig
def Yq (s:Rat×Rat) (x:Rat):Rat×Rat:=(if Wz x s.1<0 then x else s.1,if Wz x s.2>0 then x else s.2)
def K3 (r:Rat) (l:List Rat):Rat×Rat:=l.foldl Yq (r,r)
def Cy (x:Fr):List Value:=[.int .i64 x.n.s,.slice x.n.q x.n.n x.n.cap,.int .i64 x.d.s,.slice x.d.q x.d.n x.d.cap]
theorem SU {α:Type} {f:α→List Value} {k:Nat} (hf:∀ x,(f x).length=k):∀ (l:List α) (i j:Nat) (h:i<l.length),j<k→(l.flatMap f)[i*k+j]?=(f l[i])[j]?
 |[],_,_,h,_=>by simp at h
 |x::l,0,j,_,hj=>by
  rw [List.flatMap_cons,Nat.zero_mul,Nat.zero_add,List.getElem?_append,if_pos (by rw [hf];exact hj)];rfl
 |x::l,i+1,j,h,hj=>by
  rw [List.flatMap_cons,List.getElem?_append,if_neg (by rw [hf,Nat.add_mul];omega),hf]
  have:=SU hf l i j (by simpa using h) hj
  rw [show(i+1)*k+j - k=i*k+j by rw [Nat.add_mul];omega,this];rfl
theorem Lg {α:Type} {f:α→List Value} {k:Nat} (hf:∀ x,(f x).length=k) (l:List α):(l.flatMap f).length=l.length*k:=by
 induction l with
 |nil=>simp
 |cons x l ih=>rw [List.flatMap_cons,List.length_append,hf,ih,List.length_cons,Nat.add_mul];omega
theorem OJ {s:Rat×Rat} {x:Rat} {k:Nat} (h:JX s.1≤k∧JX s.2≤k) (hx:JX x≤k):JX (Yq s x).1≤k∧JX (Yq s x).2≤k:=by
 unfold Yq
 refine⟨?_,?_⟩
 ·show JX (if _ then _ else _)≤k
  split
  ·exact hx
  ·exact h.1
 ·show JX (if _ then _ else _)≤k
  split
  ·exact hx
  ·exact h.2
theorem Gt {k:Nat}:∀ (l:List Rat) (s:Rat×Rat),(JX s.1≤k∧JX s.2≤k)→(∀ x∈l,JX x≤k)→JX (l.foldl Yq s).1≤k∧JX (l.foldl Yq s).2≤k
 |[],_,h,_=>h
 |x::l,s,h,hx=>Gt l (Yq s x) (OJ h (hx x (by simp))) (fun y hy=>hx y (by simp [hy]))
structure yu (n:Nat) (l:List Rat) (r:Rat×Rat) where
 i:Nat
 x:Sp
 s:Rat×Rat
 le:i≤n
 h:s=(l.take i).foldl Yq r
theorem Pl {l:List Rat} {i:Nat} (hi:i<l.length) (r:Rat×Rat):(l.take (i+1)).foldl Yq r=Yq ((l.take i).foldl Yq r) l[i]:=by
 rw [List.take_succ_eq_append_getElem hi,List.foldl_append];rfl
theorem KY {w:World} {F:Gs} {x:Fr} {r:Rat} {q:Option Addr} {n c:Nat} {ps:List (Fr×Rat)} (hF:Fits F w) (h:JV F x r) (hR:JF F q n 4 (ps.flatMap (fun p=>Cy p.1))) (hP:∀ p∈ps,JV F p.1 p.2) (hn:ps.length=n) (hb:n≤1000000) (hz:JX r≤50000000∧∀ p∈ps,JX p.2≤50000000) :
  VE Tryz.prog 152 [x.v,.slice q n c] w F (K3 r (ps.map (·.2))):=by
 have hzl:∀ y∈ps.map (·.2),JX y≤50000000:=fun y hy=>by obtain ⟨p,hp,rfl⟩:=List.mem_map.1 hy;exact hz.2 p hp
 have hml:(ps.map (·.2)).length=n:=by simpa using hn
 refine QT.intro (G:=fun F=>JV F x r∧JF F q n 4 (ps.flatMap (fun p=>Cy p.1))∧(∀ p∈ps,JV F p.1 p.2)) Tryz.func152 rfl (by rfl) rfl rfl hF (fun F' hF'=>⟨h.le hF',hR.le hF',fun p hp=>(hP p hp).le hF'⟩)<|QG<|QB<|Q5 rfl (vs:=[_,_,_,_]) rfl (fun b2=>QZ Y2 (fun b4=>QF<|QD<|QG<|QB<|QA (QL (vs:=[_,_,_,_]) rfl Qg (.there .here) (.here (.here (.here (.here .nil)))) rfl)<|QA (QL (vs:=[_,_,_,_]) rfl Qg (.there .here) (.here (.here (.here (.here .nil)))) rfl)<|QA (Q9 rfl R2 Y2 (.cons (vs:=[_,_,_,_]) rfl rfl rfl (.here (.here (.here (.here .nil)))) (.cons (vs:=[_,_,_,_]) rfl rfl rfl (.skip (.skip (.skip (.skip (.here (.here (.here (.here .nil)))))))) .nil)))<|QZ Y2 (fun b5=>QP (vs:=[_,_,_,_,_,_,_,_]) rfl rfl rfl XL rfl .here (.here (.here (.here (.here (.here (.here (.here (.here .nil)))))))) ⟨rfl,rfl,rfl,rfl,rfl,rfl,rfl,rfl,trivial⟩<|QF<|QD<|QG<|QG<|QB<|QA (QC rfl)<|QA (Ql rfl Ho)<|QA (QC rfl)<|QF<|QD<|Qa ?_)))
 refine XS (ι:=yu n (ps.map (·.2)) (r,r)) (fun i=>[(4,.pointer (some ⟨b4,0,none⟩)),(5,.pointer (some ⟨b5,0,none⟩)),(11,.slice q n c),(12,.int .i64 n),(13,.int .i64 i.i)]) (fun i=>[(b5,.cells #[.int .i64 i.x.lo.n.s,.slice i.x.lo.n.q i.x.lo.n.n i.x.lo.n.cap,.int .i64 i.x.lo.d.s,.slice i.x.lo.d.q i.x.lo.d.n i.x.lo.d.cap,.int .i64 i.x.hi.n.s,.slice i.x.hi.n.q i.x.hi.n.n i.x.hi.n.cap,.int .i64 i.x.hi.d.s,.slice i.x.hi.d.q i.x.hi.d.n i.x.hi.d.cap] 138 (0,0)),(b4,.cells #[.int .i64 0,.slice none 0 0,.int .i64 0,.slice none 0 0,.int .i64 0,.slice none 0 0,.int .i64 0,.slice none 0 0] 138 (0,0))]) (fun i F=>ZV F i.x i.s∧JF F q n 4 (ps.flatMap (fun p=>Cy p.1))∧(∀ p∈ps,JV F p.1 p.2)) (fun i=>n - i.i)
   ⟨0,⟨x,x⟩,(r,r),Nat.zero_le _,rfl⟩ ⟨rfl,rfl,rfl,rfl,rfl,trivial⟩ (.cons_cons _ (.cons_cons _ (.cons _ (List.Sublist.refl _)))) (fun F ⟨hX,hR,hP⟩=>⟨⟨hX,hX⟩,hR,hP⟩) (fun i=>?_)
 have hle:=i.le
 have hsi:JX i.s.1≤50000000∧JX i.s.2≤50000000:=by rw [i.h];exact Gt _ _ ⟨hz.1,hz.1⟩ (fun y hy=>hzl y (List.mem_of_mem_take hy))
 refine QG<|QB<|QA (QU rfl rfl rfl)<|QF<|QD<|QG ?_
 refine QO rfl (fun hc=>?_) (fun hc=>?_)
 ·
  have hi:i.i<n:=by simp at hc;omega
  have hil:i.i<ps.length:=by omega
  have hzi:=hz.2 _ (List.getElem_mem hil)
  refine Xl _ (fun w F hF h=>h.2.1.ptr (by omega)) (fun hq=>?_)
  obtain ⟨qb,qo,rfl⟩:=hq
  refine QN<|QD<|QG<|Qa<|QG<|QB<|QA (Qy rfl rfl Ho Qg hi) ?_
  refine QA (Db (vs:=Cy ps[i.i].1) rfl Qg (fun F h=>h.2.1) (by omega) rfl (fun j v hv=>by rw [SU (f:=fun p:Fr×Rat=>Cy p.1) (k:=4) (fun _=>rfl) ps i.i j hil (by rcases Nat.lt_or_ge j 4 with g | g;exact g;rw [List.getElem?_eq_none (by simpa [Cy] using g)] at hv;cases hv)];exact hv)) ?_
  refine QZ X1 (fun b7=>QP (vs:=[_,_,_,_]) rfl rfl rfl Qg rfl .here (.here (.here (.here (.here .nil)))) ⟨rfl,rfl,rfl,rfl,trivial⟩<|QF<|QD ?_)
  refine Kq (ι:=Fr) (fun _=>[(4,.pointer (some ⟨b4,0,none⟩)),(5,.pointer (some ⟨b5,0,none⟩)),(7,.pointer (some ⟨b7,0,none⟩)),(11,.slice (some ⟨qb,qo,none⟩) n c),(12,.int .i64 n),(13,.int .i64 i.i)]) (fun y=>(b7,.cells #[.int .i64 ps[i.i].1.n.s,.slice ps[i.i].1.n.q ps[i.i].1.n.n ps[i.i].1.n.cap,.int .i64 ps[i.i].1.d.s,.slice ps[i.i].1.d.q ps[i.i].1.d.n ps[i.i].1.d.cap] 130 (0,0))::[(b5,.cells #[.int .i64 y.n.s,.slice y.n.q y.n.n y.n.cap,.int .i64 y.d.s,.slice y.d.q y.d.n y.d.cap,.int .i64 i.x.hi.n.s,.slice i.x.hi.n.q i.x.hi.n.n i.x.hi.n.cap,.int .i64 i.x.hi.d.s,.slice i.x.hi.d.q i.x.hi.d.n i.x.hi.d.cap] 138 (0,0)),(b4,.cells #[.int .i64 0,.slice none 0 0,.int .i64 0,.slice none 0 0,.int .i64 0,.slice none 0 0,.int .i64 0,.slice none 0 0] 138 (0,0))])
    (fun y F=>ZV F ⟨y,i.x.hi⟩ (if Wz ps[i.i].2 i.s.1<0 then ps[i.i].2 else i.s.1,i.s.2)∧JF F (some ⟨qb,qo,none⟩) n 4 (ps.flatMap (fun p=>Cy p.1))∧(∀ p∈ps,JV F p.1 p.2)) ?_ ?_
  ·
   refine QG<|QB<|QA (QL (vs:=[_,_,_,_]) rfl Qg .here (.here (.here (.here (.here .nil)))) rfl)<|QA (QI rfl Zt Qg)<|QA (QL (vs:=[_,_,_,_]) rfl Qg (.there .here) (.here (.here (.here (.here .nil)))) rfl)<|QH rfl (fun w F hF ⟨hS,hR,hP⟩=>SV (x:=ps[i.i].1) (y:=i.x.lo) (r:=ps[i.i].2) (s:=i.s.1) hF (hP _ (List.getElem_mem hil)) hS.1 (by omega) (by omega)) (fun _=>QA (QU rfl rfl rfl)<|QF<|QD ?_)
   refine QO rfl (fun hc21=>?_) (fun hc21=>?_)
   ·
    refine QB<|QA (QL (vs:=[_,_,_,_]) rfl Qg .here (.here (.here (.here (.here .nil)))) rfl)<|QA (QI rfl Zt Qg)<|QP (vs:=[_,_,_,_]) rfl rfl rfl Qg rfl (.there .here) (.here (.here (.here (.here .nil)))) ⟨rfl,rfl,rfl,rfl,trivial⟩<|QF ?_
    exact J9 ps[i.i].1 ⟨rfl,rfl,rfl,rfl,rfl,rfl,trivial⟩ (List.Sublist.refl _) (fun F ⟨⟨hS,hR,hP⟩,_⟩=>⟨⟨by show JV F _ (if _ then _ else _);rw [if_pos (of_decide_eq_true hc21)];exact hP _ (List.getElem_mem hil),hS.2⟩,hR,hP⟩)
   ·
    refine QN ?_
    exact J9 i.x.lo ⟨rfl,rfl,rfl,rfl,rfl,rfl,trivial⟩ (List.Sublist.refl _) (fun F ⟨⟨hS,hR,hP⟩,_⟩=>⟨⟨by show JV F _ (if _ then _ else _);rw [if_neg (of_decide_eq_false hc21)];exact hS.1,hS.2⟩,hR,hP⟩)
  ·intro xg5
   refine QG<|QB<|QA (QL (vs:=[_,_,_,_]) rfl Qg .here (.here (.here (.here (.here .nil)))) rfl)<|QA (QI rfl YD Qg)<|QA (QL (vs:=[_,_,_,_]) rfl Qg (.there .here) (.skip (.skip (.skip (.skip (.here (.here (.here (.here .nil)))))))) rfl)<|QH rfl (fun w F hF ⟨hS,hR,hP⟩=>SV (x:=ps[i.i].1) (y:=i.x.hi) (r:=ps[i.i].2) (s:=i.s.2) hF (hP _ (List.getElem_mem hil)) hS.2 (by omega) (by omega)) (fun _=>QA (QU rfl rfl rfl)<|QF<|QD ?_)
   refine QO rfl (fun hc28=>?_) (fun hc28=>?_)
   ·
    refine QB<|QA (QL (vs:=[_,_,_,_]) rfl Qg .here (.here (.here (.here (.here .nil)))) rfl)<|QA (QI rfl YD Qg)<|QP (vs:=[_,_,_,_]) rfl rfl rfl Qg rfl (.there .here) (.skip (.skip (.skip (.skip (.here (.here (.here (.here .nil)))))))) ⟨rfl,rfl,rfl,rfl,trivial⟩<|QF<|Qm<|QD<|QB<|QA (Qw rfl rfl (by omega))<|QA (QC rfl)<|QF ?_
    exact Qo (⟨i.i+1,⟨xg5,ps[i.i].1⟩,Yq i.s ps[i.i].2,by omega,by rw [Pl (by omega),← i.h,List.getElem_map]⟩:yu n (ps.map (·.2)) (r,r)) (by show n - (i.i+1)<n - i.i;omega) ⟨rfl,rfl,rfl,rfl,rfl,trivial⟩ (.cons _ (List.Sublist.refl _)) (fun F ⟨⟨hS,hR,hP⟩,_⟩=>⟨⟨hS.1,by show JV F _ (if _ then _ else _);rw [if_pos (of_decide_eq_true hc28)];exact hP _ (List.getElem_mem hil)⟩,hR,hP⟩)
   ·
    refine QN<|Qm<|QD<|QB<|QA (Qw rfl rfl (by omega))<|QA (QC rfl)<|QF ?_
    exact Qo (⟨i.i+1,⟨xg5,i.x.hi⟩,Yq i.s ps[i.i].2,by omega,by rw [Pl (by omega),← i.h,List.getElem_map]⟩:yu n (ps.map (·.2)) (r,r)) (by show n - (i.i+1)<n - i.i;omega) ⟨rfl,rfl,rfl,rfl,rfl,trivial⟩ (.cons _ (List.Sublist.refl _)) (fun F ⟨⟨hS,hR,hP⟩,_⟩=>⟨⟨hS.1,by show JV F _ (if _ then _ else _);rw [if_neg (of_decide_eq_false hc28)];exact hS.2⟩,hR,hP⟩)
 ·
  refine Q6 ?_
  repeat (first | refine Qc ?_ | refine QX (by rfl) ?_)
  refine Qd<|QD<|QG<|QB<|QA (QL (vs:=[_,_,_,_,_,_,_,_]) rfl XL .here (.here (.here (.here (.here (.here (.here (.here (.here .nil)))))))) rfl)<|QP (vs:=[_,_,_,_,_,_,_,_]) rfl rfl rfl XL rfl (.there .here) (.here (.here (.here (.here (.here (.here (.here (.here .nil)))))))) ⟨rfl,rfl,rfl,rfl,rfl,rfl,rfl,rfl,trivial⟩<|QF<|QD<|QS ?_
  exact QQ (i.x) rfl (.Ja (c:=[_,_,_,_,_,_,_,_]) rfl XL (.there .here) .nil) rfl (fun F h=>by have e:=i.h;rw [List.take_of_length_le (by simp at hc;omega)] at e;show ZV F i.x (List.foldl Yq (r,r) _);rw [← e];exact h.1)
theorem qk {w:World} {F:Gs} {x y:Sp} {a b:Rat×Rat} (hF:Fits F w) (h:ZV F x a) (h':ZV F y b) (ha:JX a.1≤100000000∧JX a.2≤100000000) (hb:JX b.1≤100000000∧JX b.2≤100000000):VE Tryz.prog 146 [x.v,y.v] w F (a.1+b.1,a.2+b.2):=by
 refine QT.intro (G:=fun F=>ZV F x a∧ZV F y b) Tryz.func146 rfl (by rfl) rfl rfl hF (fun F' hF'=>⟨h.le hF',h'.le hF'⟩)<|QG<|QB<|Q5 rfl (vs:=[_,_,_,_,_,_,_,_]) rfl (fun b2=>Q5 rfl (vs:=[_,_,_,_,_,_,_,_]) rfl (fun b3=>QZ Y2 (fun b4=>QF<|QD<|QG<|JQ (.cons _ (.cons_cons _ (.cons_cons _ .slnil))) mixed (by kernel_rfl)<|QM (QI rfl Zt Qg)<|QM (QL (vs:=[_,_,_,_]) rfl Qg (.there .here) (.here (.here (.here (.here .nil)))) rfl)<|QM (QI rfl Zt Qg)<|QM (QL (vs:=[_,_,_,_]) rfl Qg .here (.here (.here (.here (.here .nil)))) rfl)<|Qb rfl (fun w F hF ⟨hA,hB⟩=>Hz (x:=x.lo) (y:=y.lo) hF hA.1 hB.1 ha.1 hb.1) (fun x9=>QM (QI rfl YD Qg)<|QM (QL (vs:=[_,_,_,_]) rfl Qg (.there .here) (.skip (.skip (.skip (.skip (.here (.here (.here (.here .nil)))))))) rfl)<|QM (QI rfl YD Qg)<|QM (QL (vs:=[_,_,_,_]) rfl Qg .here (.skip (.skip (.skip (.skip (.here (.here (.here (.here .nil)))))))) rfl)<|Qb rfl (fun w F hF ⟨⟨hA,hB⟩,⟨h9,h9_⟩⟩=>Hz (x:=x.hi) (y:=y.hi) hF hA.2 hB.2 ha.2 hb.2) (fun x14=>QM (Q9 rfl R2 Y2 (.cons (vs:=[_,_,_,_]) rfl rfl rfl (.here (.here (.here (.here .nil)))) (.cons (vs:=[_,_,_,_]) rfl rfl rfl (.skip (.skip (.skip (.skip (.here (.here (.here (.here .nil)))))))) .nil)))<|JY (vs:=[_,_,_,_,_,_,_,_]) rfl rfl rfl XL rfl .here (.cons_cons _ (.cons_cons _ .slnil)) (fun _ h=>h.1.1) (.here (.here (.here (.here (.here (.here (.here (.here .nil)))))))) ⟨rfl,rfl,rfl,rfl,rfl,rfl,rfl,rfl,trivial⟩<|Q3<|QD<|QS ?_)))))
 exact QQ (⟨x9,x14⟩:Sp) rfl (.Ja (c:=[_,_,_,_,_,_,_,_]) rfl XL .here .nil) rfl (fun F ⟨⟨⟨hA,hB⟩,⟨h9,h9_⟩⟩,⟨h14,h14_⟩⟩=>⟨⟨h9,h9_⟩,⟨h14,h14_⟩⟩)
def V1 (a b:Rat×Rat):Rat×Rat:=K3 (a.1*b.1) [a.1*b.2,a.2*b.1,a.2*b.2]
theorem TG {w:World} {F:Gs} {x y:Sp} {a b:Rat×Rat} (hF:Fits F w) (h:ZV F x a) (h':ZV F y b) (ha:JX a.1≤20000000∧JX a.2≤20000000) (hb:JX b.1≤20000000∧JX b.2≤20000000):VE Tryz.prog 148 [x.v,y.v] w F (V1 a b):=by
 have z1:=J2 a.1 b.1
 have z2:=J2 a.1 b.2
 have z3:=J2 a.2 b.1
 have z4:=J2 a.2 b.2
 refine QT.intro (G:=fun F=>ZV F x a∧ZV F y b) Tryz.func148 rfl (by rfl) rfl rfl hF (fun F' hF'=>⟨h.le hF',h'.le hF'⟩)<|QG<|QB<|Q5 rfl (vs:=[_,_,_,_,_,_,_,_]) rfl (fun b2=>Q5 rfl (vs:=[_,_,_,_,_,_,_,_]) rfl (fun b3=>QZ Y2 (fun b4=>QF<|QD<|QG<|JQ (.cons _ (.cons_cons _ (.cons_cons _ .slnil))) mixed (by kernel_rfl)<|QM (QI rfl Zt Qg)<|QM (QL (vs:=[_,_,_,_]) rfl Qg (.there .here) (.here (.here (.here (.here .nil)))) rfl)<|QM (QI rfl Zt Qg)<|QM (QL (vs:=[_,_,_,_]) rfl Qg .here (.here (.here (.here (.here .nil)))) rfl)<|Qb rfl (fun w F hF ⟨hA,hB⟩=>KC (x:=x.lo) (y:=y.lo) hF hA.1 hB.1 (by omega) (by omega)) (fun x9=>QM (QI rfl Zt Qg)<|QM (QL (vs:=[_,_,_,_]) rfl Qg (.there .here) (.here (.here (.here (.here .nil)))) rfl)<|QM (QI rfl YD Qg)<|QM (QL (vs:=[_,_,_,_]) rfl Qg .here (.skip (.skip (.skip (.skip (.here (.here (.here (.here .nil)))))))) rfl)<|Qb rfl (fun w F hF ⟨⟨hA,hB⟩,⟨h9,h9_⟩⟩=>KC (x:=x.lo) (y:=y.hi) hF hA.1 hB.2 (by omega) (by omega)) (fun x14=>QM (QI rfl YD Qg)<|QM (QL (vs:=[_,_,_,_]) rfl Qg (.there .here) (.skip (.skip (.skip (.skip (.here (.here (.here (.here .nil)))))))) rfl)<|QM (QI rfl Zt Qg)<|QM (QL (vs:=[_,_,_,_]) rfl Qg .here (.here (.here (.here (.here .nil)))) rfl)<|Qb rfl (fun w F hF ⟨⟨⟨hA,hB⟩,⟨h9,h9_⟩⟩,⟨h14,h14_⟩⟩=>KC (x:=x.hi) (y:=y.lo) hF hA.2 hB.1 (by omega) (by omega)) (fun x19=>?_))))))
 refine QM (QI rfl YD Qg)<|QM (QL (vs:=[_,_,_,_]) rfl Qg (.there .here) (.skip (.skip (.skip (.skip (.here (.here (.here (.here .nil)))))))) rfl)<|QM (QI rfl YD Qg)<|QM (QL (vs:=[_,_,_,_]) rfl Qg .here (.skip (.skip (.skip (.skip (.here (.here (.here (.here .nil)))))))) rfl)<|Qb rfl (fun w F hF ⟨⟨⟨⟨hA,hB⟩,⟨h9,h9_⟩⟩,⟨h14,h14_⟩⟩,⟨Bq,h19_⟩⟩=>KC (x:=x.hi) (y:=y.hi) hF hA.2 hB.2 (by omega) (by omega)) (fun x24=>?_)
 refine Ju rfl (Q8 Ho) Qg X1 rfl rfl (fun b25=>?_) (fun w h=>h.imp (.cons _ (List.Sublist.refl _)) (fun F h=>h.1.1.1.1))
 refine Qb rfl (fun w F hF ⟨⟨⟨⟨⟨⟨hA,hB⟩,⟨h9,h9_⟩⟩,⟨h14,h14_⟩⟩,⟨Bq,h19_⟩⟩,⟨h24,h24_⟩⟩,hs25⟩=>KY (ps:=[(x14,a.1*b.2),(x19,a.2*b.1),(x24,a.2*b.2)]) hF ⟨h9,h9_⟩ (JF.of (cs:=List.flatMap (fun p=>Cy p.1) [(x14,a.1*b.2),(x19,a.2*b.1),(x24,a.2*b.2)]) hs25 rfl) (fun p hp=>by
  simp only [List.mem_cons,List.not_mem_nil,or_false] at hp
  rcases hp with rfl | rfl | rfl
  ·exact⟨h14,h14_⟩
  ·exact⟨Bq,h19_⟩
  ·exact⟨h24,h24_⟩) rfl (by decide) ⟨by omega,fun p hp=>by
  simp only [List.mem_cons,List.not_mem_nil,or_false] at hp
  rcases hp with rfl | rfl | rfl<;>dsimp only<;>omega⟩) (fun x26=>?_)
 refine JY (vs:=[_,_,_,_,_,_,_,_]) rfl rfl rfl XL rfl .here (.cons_cons _ (.cons_cons _ .slnil)) (fun _ h=>h.1.1.1.1.1.1) (.here (.here (.here (.here (.here (.here (.here (.here .nil)))))))) ⟨rfl,rfl,rfl,rfl,rfl,rfl,rfl,rfl,trivial⟩<|Q3<|QD<|QS ?_
 exact QQ (x26) rfl (.Ja (c:=[_,_,_,_,_,_,_,_]) rfl XL .here .nil) rfl (fun F h=>h.2)
end
section
open Go.RowKit Ig
def Bf (op:Rat×Rat→Rat×Rat→Rat×Rat) (a b:List UInt8×List UInt8):(List UInt8×List UInt8)×Int :=
 if Qj [XR a.1 a.2,XR b.1 b.2]=0 then Bs (op (JA a.1,JA a.2) (JA b.1,JA b.2)) else(([],[]),Qj [XR a.1 a.2,XR b.1 b.2])
def short (a:List UInt8×List UInt8):Prop:=a.1.length≤1000000∧a.2.length≤1000000
theorem zj {w:World} {F:Gs} {a b:List UInt8×List UInt8} {f:Nat} {op:Rat×Rat→Rat×Rat→Rat×Rat} (hF:Fits F w) (hG:JC F) (ha:short a) (hb:short b)
  (hop:∀ w F x y r s,Fits F w→ZV F x r→ZV F y s→(JX r.1≤2400∧JX r.2≤2400)→(JX s.1≤2400∧JX s.2≤2400)→VE Tryz.prog f [x.v,y.v] w F (op r s)∧(JX (op r s).1≤100000000∧JX (op r s).2≤100000000)) :
  QW Tryz.prog 145 [.agg #[tx a.1,tx a.2],.agg #[tx b.1,tx b.2],.func (.func f) #[] #[]] w F (.tuple #[.agg #[tx (Bf op a b).1.1,tx (Bf op a b).1.2],.int .i64 (Bf op a b).2]):=by
 refine QT.intro (G:=fun F=>JC F) Tryz.func145 rfl (by rfl) rfl rfl hF (fun F' hF'=>hG.le hF')<|QG<|QB<|Q5 rfl (vs:=[_,_]) rfl (fun b3=>Q5 rfl (vs:=[_,_]) rfl (fun b4=>QZ Yp (fun b6=>QA (QE rfl)<|QF<|QD<|QG<|QG<|JQ (List.Sublist.refl _) mixed (by kernel_rfl)<|QM (QL (vs:=[_,_]) rfl Jw (.there (.there .here)) (.here (.here .nil)) rfl)<|Qb rfl (fun w F hF hGl=>KX (lo:=a.1) (hi:=a.2) hF hGl ha) (fun _=>QM (QL (vs:=[_,_]) rfl Jw (.there .here) (.here (.here .nil)) rfl)<|Qb rfl (fun w F hF ⟨hGl,_⟩=>KX (lo:=b.1) (hi:=b.2) hF hGl hb) (fun _=>?_)))))
 refine Ju rfl (Q8 Zn) Y3 BA rfl rfl (fun b13=>?_) (fun w h=>h.Bn fun F h=>h.1.1)
 refine Qb rfl (fun w F hF ⟨⟨⟨hGl,_⟩,_⟩,hs13⟩=>YB hF (JF.of (cs:=List.map Qz [XR a.1 a.2,XR b.1 b.2]) hs13 rfl) (by decide)) (fun _=>QM (QE rfl)<|Q3<|QD<|QG<|QB<|QA (QC rfl)<|QA (QU rfl rfl rfl)<|QF<|QD ?_)
 refine QO rfl (fun hc=>?_) (fun hc=>?_)
 ·
  refine QG<|QB<|QA (Q9 rfl KR Yp .nil)<|QA (QC rfl)<|QP (vs:=[_,_]) rfl rfl rfl Jw rfl .here (.here (.here .nil)) ⟨rfl,rfl,trivial⟩<|QA (QE rfl)<|QF<|QD<|QS ?_
  exact JH () rfl (.Ja (c:=[_,_]) rfl Jw .here (.tmp rfl .nil)) (by unfold Bf;rw [if_neg (by simpa using hc)];rfl) (fun _ _=>trivial)
 ·
  have h0:Qj [XR a.1 a.2,XR b.1 b.2]=0:=by simpa using hc
  have h1:=X7 h0
  have hoka:=VC h1.1
  have hokb:=VC h1.2
  refine QN<|QD<|QG<|JQ (.cons _ (.cons_cons _ (.cons_cons _ .slnil))) mixed (by kernel_rfl)<|QM (QC rfl)<|QM (QL (vs:=[_,_]) rfl Jw (.there .here) (.here (.here .nil)) rfl)<|Qb rfl (fun w F hF ⟨⟨⟨⟨hGl,_⟩,_⟩,hs13⟩,_⟩=>NG hF hGl hoka.1 hoka.2.1 ha) (fun x21=>QM (QL (vs:=[_,_]) rfl Jw .here (.here (.here .nil)) rfl)<|Qb rfl (fun w F hF ⟨⟨⟨⟨⟨hGl,_⟩,_⟩,hs13⟩,_⟩,⟨⟨h21,h21_⟩,⟨h21a,h21b⟩⟩⟩=>NG hF hGl hokb.1 hokb.2.1 hb) (fun x23=>AE (c1:=[]) (c2:=[]) rfl rfl (fun w F hF h=>(hop w F x21 x23 _ _ hF h.1.2 h.2 ⟨Q7 hoka.1,Q7 hoka.2.1⟩ ⟨Q7 hokb.1,Q7 hokb.2.1⟩).1) (fun x24=>Qb rfl (fun w F hF h=>E4 (x:=x24) (r:=op (JA a.1,JA a.2) (JA b.1,JA b.2)) hF h.1.1.1.1.1.1.1 h.2 (hop w F x21 x23 _ _ hF h.1.1.2 h.1.2 ⟨Q7 hoka.1,Q7 hoka.2.1⟩ ⟨Q7 hokb.1,Q7 hokb.2.1⟩).2) (fun _=>QM (QK rfl rfl)<|QM (QK rfl rfl)<|JY (vs:=[_,_]) rfl rfl rfl Jw rfl .here (.cons_cons _ (.cons_cons _ .slnil)) (fun _ h=>h.1.1.1.1) (.here (.here .nil)) ⟨rfl,rfl,trivial⟩<|QM (QE rfl)<|Q3<|QD<|QS ?_))))
  exact JH () rfl (.Ja (c:=[_,_]) rfl Jw .here (.tmp rfl .nil)) (by unfold Bf;rw [if_pos h0];rfl) (fun _ _=>trivial)
theorem Au {w:World} {F:Gs} {a b:List UInt8×List UInt8} (hF:Fits F w) (hG:JC F) (ha:short a) (hb:short b) :
  QW Tryz.prog 47 [.agg #[tx a.1,tx a.2],.agg #[tx b.1,tx b.2]] w F (.tuple #[.agg #[tx (Bf V1 a b).1.1,tx (Bf V1 a b).1.2],.int .i64 (Bf V1 a b).2]):=by
 refine QT.intro (G:=fun F=>JC F) Tryz.func47 rfl (by rfl) rfl rfl hF (fun F' hF'=>hG.le hF')<|QG<|QB<|Q5 rfl (vs:=[_,_]) rfl (fun b2=>Q5 rfl (vs:=[_,_]) rfl (fun b3=>QZ Yp (fun b4=>QA (QE rfl)<|QF<|QD<|QG<|QB<|QA (QL (vs:=[_,_]) rfl Jw (.there (.there .here)) (.here (.here .nil)) rfl)<|QA (QL (vs:=[_,_]) rfl Jw (.there .here) (.here (.here .nil)) rfl)<|QH rfl (fun w F hF hGl=>zj (a:=a) (b:=b) (op:=V1) hF hGl ha hb (fun w F x y r s hF hx hy hr hs=>⟨TG hF hx hy ⟨by omega,by omega⟩ ⟨by omega,by omega⟩,(by have z1:=J2 r.1 s.1;have z2:=J2 r.1 s.2;have z3:=J2 r.2 s.1;have z4:=J2 r.2 s.2;have:=Gt (k:=4800) [r.1*s.2,r.2*s.1,r.2*s.2] (r.1*s.1,r.1*s.1) ⟨by dsimp only;omega,by dsimp only;omega⟩ (fun x hx=>(by simp only [List.mem_cons,List.not_mem_nil,or_false] at hx;rcases hx with rfl | rfl | rfl<;>omega));exact⟨Nat.le_trans this.1 (by decide),Nat.le_trans this.2 (by decide)⟩)⟩)) (fun c8=>QA (QK rfl rfl)<|QA (QK rfl rfl)<|QP (vs:=[_,_]) rfl rfl rfl Jw rfl .here (.here (.here .nil)) ⟨rfl,rfl,trivial⟩<|QA (QE rfl)<|QF<|QD<|QS ?_))))
 exact JH () rfl (.Ja (c:=[_,_]) rfl Jw .here (.tmp rfl .nil)) rfl (fun _ _=>trivial)
end
section
open Go.RowKit Ig
def ZZ (op:Rat→Rat→Rat) (a b:List UInt8):List UInt8×Int:=if Qj [Qp a,Qp b]=0 then Kt (op (JA a) (JA b)) else([],Qj [Qp a,Qp b])
theorem Si {w:World} {F:Gs} {a b:List UInt8} {f:Nat} {op:Rat→Rat→Rat} (hF:Fits F w) (hG:JC F) (hl:a.length≤1000000∧b.length≤1000000)
  (hop:∀ w F x y,Fits F w→JV F x (JA a)→JV F y (JA b)→Qp a=0→Qp b=0→X0 Tryz.prog f [x.v,y.v] w F (op (JA a) (JA b))∧JX (op (JA a) (JA b))≤100000000) :
  QW Tryz.prog 189 [tx a,tx b,.func (.func f) #[] #[]] w F (.tuple #[tx (ZZ op a b).1,.int .i64 (ZZ op a b).2]):=by
 refine QT.intro (G:=fun F=>JC F) Tryz.func189 rfl (by rfl) rfl rfl hF (fun F' hF'=>hG.le hF')<|QG<|QB<|QA (QE rfl)<|QA (QE rfl)<|QF<|QD<|QG<|QG<|QB<|QA (QC rfl)<|QA (QC rfl)<|QV rfl (Q8 BO) X2 OG rfl rfl (fun b11=>QH rfl (fun w F hF ⟨hGl,hs11⟩=>DE (l:=[a,b]) hF hGl (JF.of (cs:=List.map tx [a,b]) hs11 rfl) ⟨by decide,fun s hs=>by simp at hs;rcases hs with rfl | rfl;exact hl.1;exact hl.2⟩) (fun _=>QA (QE rfl)<|QF<|QD<|QG<|QB<|QA (QC rfl)<|QA (QU rfl rfl rfl)<|QF<|QD ?_))
 refine QO rfl (fun hc=>?_) (fun hc=>?_)
 ·
  refine QG<|QB<|QA (QC rfl)<|QA (QE rfl)<|QA (QE rfl)<|QF<|QD<|QS ?_
  exact JH () rfl (.tmp rfl (.tmp rfl .nil)) (by unfold ZZ;rw [if_neg (by simpa using hc)];rfl) (fun _ _=>trivial)
 ·
  have h0:Qj [Qp a,Qp b]=0:=by simpa using hc
  have h1:=X7 h0
  have hz1:=Q7 h1.1
  have hz2:=Q7 h1.2
  refine QN<|QD<|QG<|QB<|QA (QC rfl)<|QA (QC rfl)<|QH rfl (fun w F hF ⟨⟨hGl,hs11⟩,_⟩=>Kh hF hGl (Jq h1.1).1 (by omega)) (fun x18=>QA (QC rfl)<|QH rfl (fun w F hF ⟨⟨⟨hGl,hs11⟩,_⟩,⟨h18,h18_⟩⟩=>Kh hF hGl (Jq h1.2).1 (by omega)) (fun x20=>WL (c1:=[]) (c2:=[]) rfl rfl (fun w F hF h=>(hop w F x18 x20 hF h.1.2 h.2 h1.1 h1.2).1) (fun x21=>QH rfl (fun w F hF h=>SQ (x:=x21) (r:=op (JA a) (JA b)) hF h.1.1.1.1.1 h.2 (hop w F x18 x20 hF h.1.1.2 h.1.2 h1.1 h1.2).2) (fun _=>QA (QK rfl rfl)<|QA (QK rfl rfl)<|QA (QE rfl)<|QA (QE rfl)<|QF<|QD<|QS ?_))))
  exact JH () rfl (.tmp rfl (.tmp rfl .nil)) (by unfold ZZ;rw [if_pos h0];rfl) (fun _ _=>trivial)
theorem yb {w:World} {F:Gs} {a b:List UInt8} (hF:Fits F w) (hG:JC F) (hl:a.length≤1000000∧b.length≤1000000):QW Tryz.prog 85 [tx a,tx b] w F (.tuple #[tx (ZZ (·+·) a b).1,.int .i64 (ZZ (·+·) a b).2]):=by
 refine QT.intro (G:=fun F=>JC F) Tryz.func85 rfl (by rfl) rfl rfl hF (fun F' hF'=>hG.le hF')<|QG<|QB<|QA (QE rfl)<|QA (QE rfl)<|QF<|QD<|QG<|QB<|QA (QC rfl)<|QA (QC rfl)<|QH rfl (fun w F hF hGl=>Si (a:=a) (b:=b) (op:=(·+·)) hF hGl hl (fun w F x y hF hx hy h1 h2=>⟨Hz hF hx hy (Nat.le_trans (Q7 h1) (by decide)) (Nat.le_trans (Q7 h2) (by decide)),Nat.le_trans (Yr _ _) (by have:=Q7 h1;have:=Q7 h2;omega)⟩)) (fun c8=>QA (QK rfl rfl)<|QA (QK rfl rfl)<|QA (QE rfl)<|QA (QE rfl)<|QF<|QD<|QS ?_)
 exact JH () rfl (.tmp rfl (.tmp rfl .nil)) (rfl) (fun _ _=>trivial)
theorem zI {w:World} {F:Gs} {a b:List UInt8} (hF:Fits F w) (hG:JC F) (hl:a.length≤1000000∧b.length≤1000000):QW Tryz.prog 86 [tx a,tx b] w F (.tuple #[tx (ZZ (· - ·) a b).1,.int .i64 (ZZ (· - ·) a b).2]):=by
 refine QT.intro (G:=fun F=>JC F) Tryz.func86 rfl (by rfl) rfl rfl hF (fun F' hF'=>hG.le hF')<|QG<|QB<|QA (QE rfl)<|QA (QE rfl)<|QF<|QD<|QG<|QB<|QA (QC rfl)<|QA (QC rfl)<|QH rfl (fun w F hF hGl=>Si (a:=a) (b:=b) (op:=(· - ·)) hF hGl hl (fun w F x y hF hx hy h1 h2=>⟨yH hF hx hy (Nat.le_trans (Q7 h1) (by decide)) (Nat.le_trans (Q7 h2) (by decide)),Nat.le_trans (Rg _ _) (by have:=Q7 h1;have:=Q7 h2;omega)⟩)) (fun c8=>QA (QK rfl rfl)<|QA (QK rfl rfl)<|QA (QE rfl)<|QA (QE rfl)<|QF<|QD<|QS ?_)
 exact JH () rfl (.tmp rfl (.tmp rfl .nil)) (rfl) (fun _ _=>trivial)
theorem z6 {w:World} {F:Gs} {a b:List UInt8} (hF:Fits F w) (hG:JC F) (hl:a.length≤1000000∧b.length≤1000000):QW Tryz.prog 87 [tx a,tx b] w F (.tuple #[tx (ZZ (·*·) a b).1,.int .i64 (ZZ (·*·) a b).2]):=by
 refine QT.intro (G:=fun F=>JC F) Tryz.func87 rfl (by rfl) rfl rfl hF (fun F' hF'=>hG.le hF')<|QG<|QB<|QA (QE rfl)<|QA (QE rfl)<|QF<|QD<|QG<|QB<|QA (QC rfl)<|QA (QC rfl)<|QH rfl (fun w F hF hGl=>Si (a:=a) (b:=b) (op:=(·*·)) hF hGl hl (fun w F x y hF hx hy h1 h2=>⟨KC hF hx hy (Nat.le_trans (Q7 h1) (by decide)) (Nat.le_trans (Q7 h2) (by decide)),Nat.le_trans (J2 _ _) (by have:=Q7 h1;have:=Q7 h2;omega)⟩)) (fun c8=>QA (QK rfl rfl)<|QA (QK rfl rfl)<|QA (QE rfl)<|QA (QE rfl)<|QF<|QD<|QS ?_)
 exact JH () rfl (.tmp rfl (.tmp rfl .nil)) (rfl) (fun _ _=>trivial)
def G5 (a b:List UInt8):List UInt8×Int:=if Qj [Qp a,Qp b]=0∧b=[48] then([],6) else ZZ (· / ·) a b
theorem val_zero {s:List UInt8} (h:Qp s=0):(JA s).num=0↔s=[48]:=by
 have hs:=(Jq h).1
 constructor
 ·intro hn
  have hr:JA s=0:=Rat.num_eq_zero.1 hn
  rw [hs,hr]
  unfold JJ
  rw [if_pos (by rfl)]
  show XX 0=[48]
  rw [Jj (by decide)];exact X8
 ·rintro rfl
  rfl
theorem yM {w:World} {F:Gs} {a b:List UInt8} (hF:Fits F w) (hG:JC F) (hl:a.length≤1000000∧b.length≤1000000):QW Tryz.prog 88 [tx a,tx b] w F (.tuple #[tx (G5 a b).1,.int .i64 (G5 a b).2]):=by
 refine QT.intro (G:=fun F=>JC F) Tryz.func88 rfl (by rfl) rfl rfl hF (fun F' hF'=>hG.le hF')<|QG<|QB<|QA (QE rfl)<|QA (QE rfl)<|QF<|QD<|QG<|QG<|QB<|QA (QC rfl)<|QA (QC rfl)<|QV rfl (Q8 BO) X2 OG rfl rfl (fun b9=>QH rfl (fun w F hF ⟨hGl,hs9⟩=>DE (l:=[a,b]) hF hGl (JF.of (cs:=List.map tx [a,b]) hs9 rfl) ⟨by decide,fun s hs=>by simp at hs;rcases hs with rfl | rfl;exact hl.1;exact hl.2⟩) (fun _=>QA (QE rfl)<|QF<|QD<|QG<|QB<|QA (QC rfl)<|QA (QU rfl rfl rfl)<|QF<|QD ?_))
 refine QO rfl (fun hc=>?_) (fun hc=>?_)
 ·
  refine QG<|QB<|QA (QC rfl)<|QA (QE rfl)<|QA (QE rfl)<|QF<|QD<|QS ?_
  exact JH () rfl (.tmp rfl (.tmp rfl .nil)) (by unfold G5 ZZ;rw [if_neg (fun h=>(by simpa using hc:¬ _) h.1),if_neg (by simpa using hc)];rfl) (fun _ _=>trivial)
 ·
  have h0:Qj [Qp a,Qp b]=0:=by simpa using hc
  have h1:=X7 h0
  have hz1:=Q7 h1.1
  have hz2:=Q7 h1.2
  refine QN<|QD<|QG<|QG<|QB<|QA (QC rfl)<|QA (Zy rfl rfl)<|QF<|QD ?_
  refine QO rfl (fun hc15=>?_) (fun hc15=>?_)
  ·
   refine QG<|QB<|QA (QE rfl)<|QA (QE rfl)<|QF<|QD<|QS ?_
   exact JH () rfl (.tmp rfl (.tmp rfl .nil)) (by unfold G5;rw [if_pos ⟨h0,by simpa using hc15⟩]) (fun _ _=>trivial)
  ·
   refine QN<|QD<|QG<|QB<|QA (QC rfl)<|QA (QC rfl)<|QH rfl (fun w F hF h=>Si (a:=a) (b:=b) (op:=(· / ·)) hF h.1.1 hl (fun w F x y hF hx hy h1 h2=>⟨yK hF hx hy (mt (val_zero h2).1 (by simpa using hc15)) (Nat.le_trans (Q7 h1) (by decide)) (Nat.le_trans (Q7 h2) (by decide)),by show JX (JA a / JA b)≤_;rw [Rat.div_def];exact Nat.le_trans (J2 _ _) (by have:=Q7 h1;have:=Q7 h2;have:=Ez (r:=JA b) (mt (val_zero h2).1 (by simpa using hc15));omega)⟩)) (fun c18=>QA (QK rfl rfl)<|QA (QK rfl rfl)<|QA (QE rfl)<|QA (QE rfl)<|QF<|QD<|QS ?_)
   exact JH () rfl (.tmp rfl (.tmp rfl .nil)) (by unfold G5;rw [if_neg (fun h=>(by simpa using hc15:¬ _) h.2)];rfl) (fun _ _=>trivial)
def ZG (a b:List UInt8):Int×Int:=if Qj [Qp a,Qp b]=0 then(Wz (JA a) (JA b),0) else(0,Qj [Qp a,Qp b])
theorem Fa {w:World} {F:Gs} {a b:List UInt8} (hF:Fits F w) (hG:JC F) (hl:a.length≤1000000∧b.length≤1000000):QW Tryz.prog 89 [tx a,tx b] w F (.tuple #[.int .i64 (ZG a b).1,.int .i64 (ZG a b).2]):=by
 refine QT.intro (G:=fun F=>JC F) Tryz.func89 rfl (by rfl) rfl rfl hF (fun F' hF'=>hG.le hF')<|QG<|QB<|QA (QE rfl)<|QA (QE rfl)<|QF<|QD<|QG<|QG<|QB<|QA (QC rfl)<|QA (QC rfl)<|QV rfl (Q8 BO) X2 OG rfl rfl (fun b9=>QH rfl (fun w F hF ⟨hGl,hs9⟩=>DE (l:=[a,b]) hF hGl (JF.of (cs:=List.map tx [a,b]) hs9 rfl) ⟨by decide,fun s hs=>by simp at hs;rcases hs with rfl | rfl;exact hl.1;exact hl.2⟩) (fun _=>QA (QE rfl)<|QF<|QD<|QG<|QB<|QA (QC rfl)<|QA (QU rfl rfl rfl)<|QF<|QD ?_))
 refine QO rfl (fun hc=>?_) (fun hc=>?_)
 ·
  refine QG<|QB<|QA (QC rfl)<|QA (QE rfl)<|QA (QE rfl)<|QF<|QD<|QS ?_
  exact JH () rfl (.tmp rfl (.tmp rfl .nil)) (by unfold ZG;rw [if_neg (by simpa using hc)];rfl) (fun _ _=>trivial)
 ·
  have h0:Qj [Qp a,Qp b]=0:=by simpa using hc
  have h1:=X7 h0
  have hz1:=Q7 h1.1
  have hz2:=Q7 h1.2
  refine QN<|QD<|QG<|QB<|QA (QC rfl)<|QH rfl (fun w F hF ⟨⟨hGl,hs9⟩,_⟩=>Kh hF hGl (Jq h1.1).1 (by omega)) (fun x15=>QA (QC rfl)<|QH rfl (fun w F hF ⟨⟨⟨hGl,hs9⟩,_⟩,⟨h15,h15_⟩⟩=>Kh hF hGl (Jq h1.2).1 (by omega)) (fun x17=>QH rfl (fun w F hF ⟨⟨⟨⟨hGl,hs9⟩,_⟩,⟨h15,h15_⟩⟩,⟨h17,h17_⟩⟩=>SV (r:=JA a) (s:=JA b) hF ⟨h15,h15_⟩ ⟨h17,h17_⟩ (by omega) (by omega)) (fun _=>QA (QE rfl)<|QA (QE rfl)<|QF<|QD<|QS ?_)))
  exact JH () rfl (.tmp rfl (.tmp rfl .nil)) (by unfold ZG;rw [if_pos h0]) (fun _ _=>trivial)
def Dp (a:List UInt8):List UInt8×Int:=if Qp a=0 then Kt (((JA a).floor:Int):Rat) else([],Qp a)
theorem C2 {w:World} {F:Gs} {a:List UInt8} (hF:Fits F w) (hG:JC F) (hl:a.length≤1000000):QW Tryz.prog 90 [tx a] w F (.tuple #[tx (Dp a).1,.int .i64 (Dp a).2]):=by
 refine QT.intro (G:=fun F=>JC F) Tryz.func90 rfl (by rfl) rfl rfl hF (fun F' hF'=>hG.le hF')<|QG<|QB<|QA (QE rfl)<|QA (QE rfl)<|QF<|QD<|QG<|QG<|QB<|QA (QC rfl)<|QH rfl (fun w F hF hGl=>DD hF hGl hl) (fun _=>QA (QE rfl)<|QF<|QD<|QG<|QB<|QA (QC rfl)<|QA (QU rfl rfl rfl)<|QF<|QD ?_)
 refine QO rfl (fun hc=>?_) (fun hc=>?_)
 ·
  refine QG<|QB<|QA (QC rfl)<|QA (QE rfl)<|QA (QE rfl)<|QF<|QD<|QS ?_
  exact JH () rfl (.tmp rfl (.tmp rfl .nil)) (by unfold Dp;rw [if_neg (by simpa using hc)]) (fun _ _=>trivial)
 ·
  have h0:Qp a=0:=by simpa using hc
  have hz:=Q7 h0
  have hf:=V7 (JA a)
  have hi:=Gc (JA a).floor
  refine QN<|QD<|QG<|QB<|QA (QC rfl)<|QH rfl (fun w F hF ⟨hGl,_⟩=>Kh hF hGl (Jq h0).1 (by omega)) (fun x11=>QH rfl (fun w F hF ⟨⟨hGl,_⟩,⟨h11,h11_⟩⟩=>Bv (r:=JA a) hF ⟨h11,h11_⟩ (by omega)) (fun g12=>QH rfl (fun w F hF ⟨⟨⟨hGl,_⟩,⟨h11,h11_⟩⟩,h12⟩=>GY hF (by assumption)) (fun x13=>QH rfl (fun w F hF ⟨⟨⟨⟨hGl,_⟩,⟨h11,h11_⟩⟩,h12⟩,⟨h13,h13_⟩⟩=>SQ (r:=(((JA a).floor:Int):Rat)) hF hGl ⟨h13,h13_⟩ (by omega)) (fun _=>QA (QK rfl rfl)<|QA (QK rfl rfl)<|QA (QE rfl)<|QA (QE rfl)<|QF<|QD<|QS ?_))))
  exact JH () rfl (.tmp rfl (.tmp rfl .nil)) (by unfold Dp;rw [if_pos h0];rfl) (fun _ _=>trivial)
end
section
open Go.RowKit Ig
def G3 (text:List UInt8):List UInt8×List UInt8×Bool:=if(Xp 46 text).2.2=true then((Xp 46 text).1,(Xp 46 text).2.1,false) else Xp 47 text
def Am (n d:List UInt8) (point slash:Bool):Bool:=!Wx n||((point||slash)&&!Wx d)
def Be (n d:List UInt8) (point slash:Bool):Int:=if slash=true then JB n else if point=true then JB (n++d) else JB n
def PL (d:List UInt8) (point slash:Bool):Int:=if slash=true then JB d else if point=true then 10^d.length else 1
def R4 (neg:Bool) (n d:List UInt8) (point slash:Bool):List UInt8×Int :=
 if Am n d point slash=true then([],14) else if PL d point slash=0 then([],6) else Kt (Rat.divInt (if neg=true then -Be n d point slash else Be n d point slash) (PL d point slash))
def R3 (s:List UInt8):List UInt8×Int :=
 if 4096<s.length then([],16) else R4 (Lib.hasPrefix s [45]) (G3 (Lib.trimPrefix s [45])).1 (G3 (Lib.trimPrefix s [45])).2.1 (Xp 46 (Lib.trimPrefix s [45])).2.2 (G3 (Lib.trimPrefix s [45])).2.2
theorem RP {s:List UInt8} (h:Wx s=true):XC s=true:=by
 simp only [Wx,Bool.and_eq_true] at h;exact h.1
theorem CO (t:List UInt8):(G3 t).1.length≤t.length∧(G3 t).2.1.length≤t.length:=by
 unfold G3
 split
 ·exact B7 46 t
 ·exact B7 47 t
theorem CS {n d:List UInt8} {pt sl:Bool} (hn:XC n=true) (hd:(pt||sl)=true→XC d=true) (hl:n.length≤1000000∧d.length≤1000000):sz (Be n d pt sl)≤8000000∧sz (PL d pt sl)≤8000000:=by
 have h1:=VJ hn
 unfold Be PL
 refine⟨?_,?_⟩
 ·split
  ·omega
  ·split
   ·rename_i h
    have h2:=VJ (l:=n++d) (by rw [ZH,hn,hd (by rw [h];rfl)];rfl)
    rw [List.length_append] at h2;omega
   ·omega
 ·split
  ·rename_i h
   have h2:=VJ (hd (by rw [h];simp))
   omega
  ·split
   ·have:=Mu d.length;omega
   ·have:sz 1=1:=by decide
    omega
theorem CT {w:World} {F:Gs} {s:List UInt8} (hF:Fits F w) (hG:JC F) (hl:s.length≤1000000):QW Tryz.prog 71 [tx s] w F (.tuple #[tx (R3 s).1,.int .i64 (R3 s).2]):=by
 have htl:=BE s [45]
 have hpl:=CO (Lib.trimPrefix s [45])
 have hcl:=B7 46 (Lib.trimPrefix s [45])
 unfold R3
 refine QT.intro (G:=fun F=>JC F) Tryz.func71 rfl (by rfl) rfl rfl hF (fun F' hF'=>hG.le hF')<|QG<|QB<|QA (QE rfl)<|QA (QE rfl)<|QF<|QD<|QG<|QG<|QB<|QA (QC rfl)<|QA (Jo rfl J5)<|QA (QU rfl rfl rfl)<|QF<|QD ?_
 refine QO rfl (fun hc14=>?_) (fun hc14=>?_)
 ·
  refine QG<|QB<|QA (QE rfl)<|QA (QE rfl)<|QF<|QD<|QS ?_
  exact JH () rfl (.tmp rfl (.tmp rfl .nil)) (by rw [if_pos (by simp at hc14;omega)]) (fun _ _=>trivial)
 ·
  have hlen:¬ 4096<s.length:=by simp at hc14;omega
  rw [if_neg hlen]
  refine QN<|QD<|QG<|QB<|QA (QC rfl)<|QH rfl (fun w F hF hGl=>ER hF ) (fun _=>QA (QC rfl)<|QA (QK rfl rfl)<|QA (QK rfl rfl)<|QA (QE rfl)<|QA (QE rfl)<|QF<|QD<|QG<|QB<|QA (QC rfl)<|QH rfl (fun w F hF ⟨hGl,_⟩=>IW hF hGl (by omega)) (fun _=>?_))
  rw [Sd]
  refine QA (QC rfl)<|QA (QK rfl rfl)<|QA (QK rfl rfl)<|QA (QK rfl rfl)<|QA (QE rfl)<|QA (QE rfl)<|QA (QE rfl)<|QF<|QD<|QG<|QB<|QA (QE rfl)<|QF<|QD ?_
  refine Kq (ι:=Unit) (fun _=>[(5,.bool (Lib.hasPrefix s [45])),(6,tx (G3 (Lib.trimPrefix s [45])).1),(7,tx (G3 (Lib.trimPrefix s [45])).2.1),(8,.bool (Xp 46 (Lib.trimPrefix s [45])).2.2),(9,.bool (G3 (Lib.trimPrefix s [45])).2.2)]) (fun _=>[]) (fun _ F=>JC F) ?_ ?_
  ·
   refine QG<|QB<|QA (QC rfl)<|QA (ZO rfl)<|QF<|QD ?_
   refine QO rfl (fun hc27=>?_) (fun hc27=>?_)
   ·
    refine QB<|QA (QC rfl)<|QH rfl (fun w F hF ⟨⟨hGl,_⟩,_⟩=>IW hF hGl (by omega)) (fun _=>?_)
    rw [Sd]
    refine QA (QC rfl)<|QA (QK rfl rfl)<|QA (QK rfl rfl)<|QA (QK rfl rfl)<|QA (QE rfl)<|QA (QE rfl)<|QA (QE rfl)<|QF ?_
    exact J9 () ⟨rfl,(by show some (tx _)=some (tx _);rw [G3,if_neg (by simpa using hc27)]),(by show some (tx _)=some (tx _);rw [G3,if_neg (by simpa using hc27)]),rfl,(by show some (Value.bool _)=some (Value.bool _);rw [G3,if_neg (by simpa using hc27)]),trivial⟩ (List.Sublist.refl _) (fun F h=>h.1.1.1)
   ·
    refine QN ?_
    exact J9 () ⟨rfl,(by show some (tx _)=some (tx _);rw [G3,if_pos (by simpa using hc27)]),(by show some (tx _)=some (tx _);rw [G3,if_pos (by simpa using hc27)]),rfl,(by show some (Value.bool _)=some (Value.bool _);rw [G3,if_pos (by simpa using hc27)]),trivial⟩ (List.Sublist.refl _) (fun F h=>h.1.1)
  ·intro xg6
   generalize G3 (Lib.trimPrefix s [45])=pc at hpl ⊢
   obtain ⟨n,d,sl⟩:=pc
   generalize (Xp 46 (Lib.trimPrefix s [45])).2.2=pt
   generalize Lib.hasPrefix s [45]=neg
   dsimp only at hpl ⊢
   refine QG ?_
   refine Vd 47 (.bool (Am n d pt sl)) ?_ ?_
   ·
    refine QB<|QA (QC rfl)<|QH rfl (fun w F hF hGl=>B4 hF (by omega)) (fun _=>QA (ZO rfl)<|QA (QC rfl) ?_)
    refine Qk (t:=37) rfl (fun hb37=>?_) (fun hb37=>?_)
    ·
     refine QR rfl rfl rfl<|QR rfl rfl rfl<|JO rfl rfl<|QR rfl rfl rfl<|QR rfl rfl rfl<|JO rfl rfl<|JO rfl rfl<|JO rfl rfl<|QR rfl rfl rfl<|QA (Qi rfl rfl rfl)<|QF ?_
     exact Jp (.cons rfl (.cons rfl (.cons rfl (.cons rfl (.cons rfl (.cons rfl (.cons rfl (.cons rfl (.cons rfl (.cons rfl (.cons rfl (.cons rfl (.cons rfl (.cons rfl (.cons rfl .refl))))))))))))))) (congrArg (fun b=>some (Value.bool b)) (by rw [Bool.eq_iff_iff];simp_all [Am])) (List.Sublist.refl _) (fun _ h=>h.1)
    ·
     refine QJ rfl rfl<|QA (QC rfl)<|QJ rfl rfl<|QA (QC rfl) ?_
     refine Qk (t:=39) rfl (fun hb39=>?_) (fun hb39=>?_)
     ·
      refine QR rfl rfl rfl<|QJ rfl rfl<|QA (Qi rfl rfl rfl)<|QJ rfl rfl<|QA (QC rfl)<|QJ rfl rfl<|QA (QC rfl)<|QJ rfl rfl<|QH rfl (fun w F hF ⟨hGl,_⟩=>B4 hF (by omega)) (fun _=>QJ rfl rfl<|QA (ZO rfl)<|QJ rfl rfl<|QA (Qi rfl rfl rfl)<|QA (Qh rfl rfl rfl)<|QF ?_)
      exact Jp (.cons rfl (.cons rfl (.cons rfl (.cons rfl (.cons rfl (.cons rfl (.cons rfl (.cons rfl (.cons rfl (.cons rfl (.cons rfl (.cons rfl (.cons rfl (.cons rfl (.cons rfl (.cons rfl .refl)))))))))))))))) (congrArg (fun b=>some (Value.bool b)) (by rw [Bool.eq_iff_iff];simp_all [Am])) (List.Sublist.refl _) (fun _ h=>h.1.1)
     ·
      refine QJ rfl rfl<|QA (QC rfl)<|QJ rfl rfl<|QA (Qh rfl rfl rfl)<|QJ rfl rfl<|QA (QC rfl) ?_
      refine Qk (t:=42) rfl (fun hb42=>?_) (fun hb42=>?_)
      ·
       refine QJ rfl rfl<|QA (QC rfl)<|QJ rfl rfl<|QH rfl (fun w F hF ⟨hGl,_⟩=>B4 hF (by omega)) (fun _=>QJ rfl rfl<|QA (ZO rfl)<|QJ rfl rfl<|QA (Qi rfl rfl rfl)<|QA (Qh rfl rfl rfl)<|QF ?_)
       exact Jp (.cons rfl (.cons rfl (.cons rfl (.cons rfl (.cons rfl (.cons rfl (.cons rfl (.cons rfl (.cons rfl (.cons rfl (.cons rfl (.cons rfl (.cons rfl (.cons rfl (.cons rfl (.cons rfl (.cons rfl .refl))))))))))))))))) (congrArg (fun b=>some (Value.bool b)) (by rw [Bool.eq_iff_iff];simp_all [Am])) (List.Sublist.refl _) (fun _ h=>h.1.1)
      ·
       refine QR rfl rfl rfl<|QR rfl rfl rfl<|QR rfl rfl rfl<|QJ rfl rfl<|QA (Qh rfl rfl rfl)<|QA (Qh rfl rfl rfl)<|QF ?_
       exact Jp (.cons rfl (.cons rfl (.cons rfl (.cons rfl (.cons rfl (.cons rfl (.cons rfl (.cons rfl (.cons rfl (.cons rfl (.cons rfl (.cons rfl (.cons rfl (.cons rfl (.cons rfl (.cons rfl (.cons rfl .refl))))))))))))))))) (congrArg (fun b=>some (Value.bool b)) (by rw [Bool.eq_iff_iff];simp_all [Am])) (List.Sublist.refl _) (fun _ h=>h.1)
   ·
    refine QO rfl (fun hc47=>?_) (fun hc47=>?_)
    ·
     refine QG<|QB<|QA (QE rfl)<|QA (QE rfl)<|QF<|QD<|QS ?_
     exact JH () rfl (.tmp rfl (.tmp rfl .nil)) (by unfold R4;rw [if_pos hc47]) (fun _ _=>trivial)
    ·
     have hbad:=hc47
     simp only [Am,Bool.or_eq_false_iff,Bool.not_eq_false',Bool.and_eq_false_iff] at hc47
     have hna:=RP hc47.1
     have hda:(pt||sl)=true→XC d=true:=fun h=>by
      rcases hc47.2 with g | g
      ·rw [Bool.or_eq_true] at h;rcases h with h | h<;>simp_all
      ·exact RP g
     have hsz:=CS hna hda ⟨by omega,by omega⟩
     refine QN<|QD<|QG<|QB<|QA (QC rfl)<|QH rfl (fun w F hF hGl=>GF hF (by rw [ZA hna];exact hna) (by omega)) (fun g49=>QH rfl (fun w F hF ⟨hGl,h49⟩=>NK hF (by omega) (by omega)) (fun g50=>QZ ZX (fun b10=>QZ ZX (fun b11=>QP (vs:=[_,_]) rfl rfl rfl QY rfl (.there .here) (.here (.here .nil)) ⟨rfl,rfl,trivial⟩<|QP (vs:=[_,_]) rfl rfl rfl QY rfl .here (.here (.here .nil)) ⟨rfl,rfl,trivial⟩<|QF<|QD ?_))))
     refine Kq (ι:=Bg×Bg) (fun j=>[(5,.bool neg),(10,.pointer (some ⟨b10,0,none⟩)),(11,.pointer (some ⟨b11,0,none⟩))]) (fun j=>[(b11,.cells #[.int .i64 j.2.s,.slice j.2.q j.2.n j.2.cap] 128 (0,0)),(b10,.cells #[.int .i64 j.1.s,.slice j.1.q j.1.n j.1.cap] 128 (0,0))]) (fun j F=>JC F∧Jr F j.1 (Be n d pt sl)∧Jr F j.2 (PL d pt sl)) ?_ ?_
     ·
      refine Qa<|QG<|QB<|QA (QC rfl)<|QA (QE rfl)<|QF<|QD ?_
      refine QO rfl (fun hc51=>?_) (fun hc51=>?_)
      ·
       refine QB<|QA (QC rfl)<|QH rfl (fun w F hF ⟨⟨hGl,h49⟩,h50⟩=>GF hF (by rw [ZA (hda (by rw [hc51];simp))];exact hda (by rw [hc51];simp)) (by omega)) (fun g54=>QP (vs:=[_,_]) rfl rfl rfl QY rfl .here (.here (.here .nil)) ⟨rfl,rfl,trivial⟩<|QF<|Qm ?_)
       exact J9 (g49,g54) ⟨rfl,rfl,rfl,trivial⟩ (List.Sublist.refl _) (fun F ⟨⟨⟨hGl,h49⟩,h50⟩,h54⟩=>⟨hGl,(by rw [XB hna] at h49;unfold Be;rw [if_pos hc51];exact h49),(by rw [XB (hda (by rw [hc51];simp))] at h54;unfold PL;rw [if_pos hc51];exact h54)⟩)
      ·
       refine QG<|QB<|QA (QC rfl)<|QA (QE rfl)<|QF<|QD ?_
       refine QO rfl (fun hc55=>?_) (fun hc55=>?_)
       ·
        refine QB<|QA (QC rfl)<|QA (QC rfl)<|QA (XO rfl rfl (by omega))<|QH rfl (fun w F hF ⟨⟨hGl,h49⟩,h50⟩=>GF hF (by rw [ZA (show XC (n++d)=true by rw [ZH,hna,hda (by rw [hc55];rfl)];rfl)];exact(show XC (n++d)=true by rw [ZH,hna,hda (by rw [hc55];rfl)];rfl)) (by rw [List.length_append];omega)) (fun g60=>QH rfl (fun w F hF ⟨⟨⟨hGl,h49⟩,h50⟩,h60⟩=>NK hF (by omega) (by omega)) (fun g61=>QA (QC rfl)<|QA (Jo rfl J5)<|QH rfl (fun w F hF ⟨⟨⟨⟨hGl,h49⟩,h50⟩,h60⟩,h61⟩=>Th (a:=10) hF h61 (by omega) (by omega) (by rw [Int.toNat_natCast,show sz 10=4 by decide];omega)) (fun g64=>QP (vs:=[_,_]) rfl rfl rfl QY rfl (.there .here) (.here (.here .nil)) ⟨rfl,rfl,trivial⟩<|QP (vs:=[_,_]) rfl rfl rfl QY rfl .here (.here (.here .nil)) ⟨rfl,rfl,trivial⟩<|QF<|Qm ?_)))
        exact J9 (g60,g64) ⟨rfl,rfl,rfl,trivial⟩ (List.Sublist.refl _) (fun F ⟨⟨⟨⟨⟨hGl,h49⟩,h50⟩,h60⟩,h61⟩,h64⟩=>⟨hGl,(by rw [XB (show XC (n++d)=true by rw [ZH,hna,hda (by rw [hc55];rfl)];rfl)] at h60;unfold Be;rw [if_neg (by rw [hc51];decide),if_pos hc55];exact h60),(by rw [Int.toNat_natCast] at h64;unfold PL;rw [if_neg (by rw [hc51];decide),if_pos hc55];exact h64)⟩)
       ·
        refine QN<|Qm ?_
        exact J9 (g49,g50) ⟨rfl,rfl,rfl,trivial⟩ (List.Sublist.refl _) (fun F ⟨⟨hGl,h49⟩,h50⟩=>⟨hGl,(by rw [XB hna] at h49;unfold Be;rw [if_neg (by rw [hc51];decide),if_neg (by rw [hc55];decide)];exact h49),(by unfold PL;rw [if_neg (by rw [hc51];decide),if_neg (by rw [hc55];decide)];exact h50)⟩)
     ·intro xb0
      refine QG<|QG<|QB<|QA (QL (vs:=[_,_]) rfl QY .here (.here (.here .nil)) rfl)<|QH rfl (fun w F hF ⟨hGl,⟨hA,hB⟩⟩=>DY hF hB) (fun _=>QA (QU rfl rfl rfl)<|QF<|QD ?_)
      refine QO rfl (fun hc67=>?_) (fun hc67=>?_)
      ·
       refine QG<|QB<|QA (QE rfl)<|QA (QE rfl)<|QF<|QD<|QS ?_
       exact JH () rfl (.tmp rfl (.tmp rfl .nil)) (by unfold R4;rw [if_neg (by rw [hbad];decide),if_pos (Od _ (by simpa using hc67))]) (fun _ _=>trivial)
      ·
       refine QN<|QD ?_
       refine Kq (ι:=Bg×Bg) (fun j=>[(5,.bool neg),(10,.pointer (some ⟨b10,0,none⟩)),(11,.pointer (some ⟨b11,0,none⟩))]) (fun j=>[(b11,.cells #[.int .i64 j.2.s,.slice j.2.q j.2.n j.2.cap] 128 (0,0)),(b10,.cells #[.int .i64 j.1.s,.slice j.1.q j.1.n j.1.cap] 128 (0,0))]) (fun j F=>JC F∧Jr F j.1 (if neg=true then -(Be n d pt sl) else(Be n d pt sl))∧Jr F j.2 (PL d pt sl)) ?_ ?_
       ·
        refine QG<|QB<|QA (QC rfl)<|QF<|QD ?_
        refine QO rfl (fun hc68=>?_) (fun hc68=>?_)
        ·
         refine QB<|QA (QL (vs:=[_,_]) rfl QY (.there .here) (.here (.here .nil)) rfl)<|QH rfl (fun w F hF ⟨⟨hGl,⟨hA,hB⟩⟩,_⟩=>EG hF hA) (fun g70=>QP (vs:=[_,_]) rfl rfl rfl QY rfl (.there .here) (.here (.here .nil)) ⟨rfl,rfl,trivial⟩<|QF ?_)
         exact J9 (g70,xb0.2) ⟨rfl,rfl,rfl,trivial⟩ (List.Sublist.refl _) (fun F ⟨⟨⟨hGl,⟨hA,hB⟩⟩,_⟩,h70⟩=>⟨hGl,(by rw [if_pos hc68];exact h70),hB⟩)
        ·
         refine QN ?_
         exact J9 (xb0.1,xb0.2) ⟨rfl,rfl,rfl,trivial⟩ (List.Sublist.refl _) (fun F ⟨⟨hGl,⟨hA,hB⟩⟩,_⟩=>⟨hGl,(by rw [if_neg (by rw [hc68];decide)];exact hA),hB⟩)
       ·intro xg17
        refine QG<|QB<|QA (QL (vs:=[_,_]) rfl QY (.there .here) (.here (.here .nil)) rfl)<|QA (QL (vs:=[_,_]) rfl QY .here (.here (.here .nil)) rfl)<|QH rfl (fun w F hF ⟨hGl,⟨hA,hB⟩⟩=>NV hF hA hB (fun e=>by rw [e] at hc67;exact absurd hc67 (by decide)) (by split<;>(try rw [YF])<;>omega) (by omega)) (fun x73=>QH rfl (fun w F hF ⟨⟨hGl,⟨hA,hB⟩⟩,⟨h73,h73_⟩⟩=>SQ (r:=Rat.divInt (if neg=true then -(Be n d pt sl) else(Be n d pt sl)) (PL d pt sl)) hF hGl ⟨h73,h73_⟩ (Nat.le_trans (YV (fun e=>by rw [e] at hc67;exact absurd hc67 (by decide))) (by have hq:sz (if neg=true then -(Be n d pt sl) else(Be n d pt sl))≤8000000:=(by split<;>(try rw [YF])<;>omega);omega))) (fun _=>QA (QK rfl rfl)<|QA (QK rfl rfl)<|QA (QE rfl)<|QA (QE rfl)<|QF<|QD<|QS ?_))
        exact JH () rfl (.tmp rfl (.tmp rfl .nil)) (by unfold R4;rw [if_neg (by rw [hbad];decide),if_neg (fun e=>by rw [e] at hc67;exact absurd hc67 (by decide))];rfl) (fun _ _=>trivial)
end
section
open Go.RowKit Ig
section
variable [Dr] [df:Df] {P:Program} {Q:Exit→Act→World→Prop} {N:Nat} {m:Sl} {ops:Array Oper} {l:List Oper} {w0:World} {F0:Gs} {bs:List (Nat×Obj)} {G:Gs→Prop} {d:Nat} {ty:TypeId} {pos:String} {aft:Array Edge}
theorem AA {T:TypeId} {x:Operand} {s:List UInt8} (hx:ev m x=some (tx s)) (hT:W7 P T=true) (k:∀ b,JS P ops Q l N ((d,.pointer (some ⟨b,0,none⟩))::m) ⟨w0,F0,(b,.stringIter ⟨s.toArray⟩ 0)::bs,G⟩) (hd:J4 N (some d)=true:=by rfl) :
  JS P ops Q (⟨some d,.range T x,ty,pos,aft,none⟩::l) N m ⟨w0,F0,bs,G⟩:=fun a w ha hw=>by
 unfold W7 at hT
 split at hT
 ·rename_i hu
  have hrun:(execOp a.eval ⟨some d,.range T x,ty,pos,aft,none⟩).run P w = .ok (.value (.pointer (some ⟨w.heap.size,0,none⟩))) (w.alloc (.stringIter ⟨s.toArray⟩ 0)):=by
   simp [execOp,ha.ev hx,Instr.range,run_underlying hu,run_newObj,tx]
  exact wpList_plain rfl fun K hK=>upon_value hrun (hK _ _ (k _ _ _ (ha.put hd _) (hw.alloc _ (fun c fr e=>by cases e))))
 ·cases hT
theorem Fg {x:Operand} {s:List UInt8} {b p:Nat} {f:Obj→List (Nat×Obj)} (hx:ev m x=some (.pointer (some ⟨b,0,none⟩))) (ho:Own bs b (.stringIter ⟨s.toArray⟩ p) f) (hp:p<s.length) {c width:Nat} (hdec:Utf8.decode ⟨s.toArray⟩ p=(c,width))
  (k:JS P ops Q l N ((d,.tuple #[.bool true,.int .i64 p,.int .i32 c])::m) ⟨w0,F0,f (.stringIter ⟨s.toArray⟩ (p+width)),G⟩) (hd:J4 N (some d)=true:=by rfl) :
  JS P ops Q (⟨some d,.next x true,ty,pos,aft,none⟩::l) N m ⟨w0,F0,bs,G⟩:=fun a w ha hw=>by
 have hb:=hw.own ho
 obtain ⟨pre,post,e1,e2⟩:=ho.split
 subst e1
 rw [e2] at k
 have hsz:p<(⟨s.toArray⟩:ByteArray).size:=by rw [YP];exact hp
 have hrun:(execOp a.eval ⟨some d,.next x true,ty,pos,aft,none⟩).run P w = .ok (.value (.tuple #[.bool true,.int .i64 p,.int .i32 c])) { w with heap:=w.heap.setIfInBounds b (.stringIter ⟨s.toArray⟩ (p+width)) }:=by
  simp [execOp,ha.ev hx,Instr.next,getObj,setObj,Sem.run,hb,hsz,hdec,goInt]
 exact wpList_plain rfl fun K hK=>upon_value hrun (hK _ _ (k _ _ (ha.put hd _) (hw.write pre ⟨rfl,rfl,rfl,rfl,rfl⟩ (fun c fr e=>by cases e))))
theorem Fh {x:Operand} {s:List UInt8} {b p:Nat} {f:Obj→List (Nat×Obj)} (hx:ev m x=some (.pointer (some ⟨b,0,none⟩))) (ho:Own bs b (.stringIter ⟨s.toArray⟩ p) f) (hp:s.length≤p)
  (k:JS P ops Q l N ((d,.tuple #[.bool false])::m) ⟨w0,F0,bs,G⟩) (hd:J4 N (some d)=true:=by rfl) :
  JS P ops Q (⟨some d,.next x true,ty,pos,aft,none⟩::l) N m ⟨w0,F0,bs,G⟩:=fun a w ha hw=>by
 have hb:=hw.own ho
 have hsz:¬ p<(⟨s.toArray⟩:ByteArray).size:=by rw [YP];omega
 have hrun:(execOp a.eval ⟨some d,.next x true,ty,pos,aft,none⟩).run P w = .ok (.value (.tuple #[.bool false])) w:=by
  simp [execOp,ha.ev hx,Instr.next,getObj,Sem.run,hb,hsz]
 exact wpList_plain rfl fun K hK=>upon_value hrun (hK _ _ (k _ _ (ha.put hd _) hw))
end
theorem decode_high {s:List UInt8} {p:Nat} (hp:p<s.length) (h:¬ s[p].toNat<128):128≤(Utf8.decode ⟨s.toArray⟩ p).1:=by
 have h0:((⟨s.toArray⟩:ByteArray).get! (p+0)).toNat=s[p].toNat:=by
  simp [ByteArray.get!,hp]
 unfold Utf8.decode
 simp only [h0]
 rw [if_neg h]
 split
 ·split
  ·rename_i g;exact g
  ·decide
 ·split
  ·split
   ·rename_i g;simp only [Bool.and_eq_true,decide_eq_true_eq] at g;exact Nat.le_trans (by decide) g.1
   ·decide
  ·split
   ·split
    ·rename_i g;simp only [Bool.and_eq_true,decide_eq_true_eq] at g;exact Nat.le_trans (by decide) g.1
    ·decide
   ·decide
theorem Ln {s:List UInt8} {p:Nat} (hp:p<s.length):∃ c width,Utf8.decode ⟨s.toArray⟩ p=(c,width)∧((s[p].toNat<128∧c=s[p].toNat∧width=1)∨(128≤s[p].toNat∧128≤c)):=by
 have h0:((⟨s.toArray⟩:ByteArray).get! (p+0)).toNat=s[p].toNat:=by
  simp [ByteArray.get!,hp]
 by_cases h:s[p].toNat<128
 ·exact⟨_,_,by unfold Utf8.decode;simp only [h0];rw [if_pos h],.inl ⟨h,rfl,rfl⟩⟩
 ·exact⟨(Utf8.decode ⟨s.toArray⟩ p).1,(Utf8.decode ⟨s.toArray⟩ p).2,rfl,.inr ⟨by omega,decode_high hp h⟩⟩
def Ua (c:Nat):Bool:=(decide (97≤c)&&decide (c≤122))||(decide (65≤c)&&decide (c≤90))
def N1 (i c:Nat):Bool:=!Ua c&&(i==0||(!(c==95)&&(decide (c<48)||decide (57<c))))
def HQ:Nat→List UInt8→Bool
 |_,[]=>true
 |i,c::r=>!N1 i c.toNat&&HQ (i+1) r
def P9 (s:List UInt8):Bool:=HQ 0 s&&decide (0<s.length)&&decide (s.length≤24)
theorem NJ {s:List UInt8} {i:Nat} (hi:i<s.length):HQ i (s.drop i)=(!N1 i s[i].toNat&&HQ (i+1) (s.drop (i+1))):=by
 rw [List.drop_eq_getElem_cons hi];rfl
theorem RW {i c:Nat} (h:128≤c):N1 i c=true:=by
 unfold N1 Ua
 rw [decide_eq_false (show ¬ c≤122 by omega),decide_eq_false (show ¬ c≤90 by omega),decide_eq_true (show 57<c by omega)]
 have:(c==95)=false:=by simp;omega
 rw [this];simp
theorem UZ {w:World} {F:Gs} {s:List UInt8} (hF:Fits F w) (hl:s.length≤1000000000):QW Tryz.prog 66 [tx s] w F (.bool (P9 s)):=by
 refine QT.intro (G:=fun _=>True) Tryz.func66 rfl (by rfl) rfl rfl hF (fun F' hF'=>trivial)<|QG<|QB<|QA (QE rfl)<|QF<|QD<|QG<|QG<|QB<|QA (QC rfl)<|AA rfl J5 (fun b7=>QF<|QD<|Qa<|XS (ι:=G6 s.length (fun i=>HQ 0 s=HQ i (s.drop i))) (fun i=>[(0,tx s),(7,.pointer (some ⟨b7,0,none⟩))]) (fun i=>[(b7,.stringIter ⟨s.toArray⟩ i.i)]) (fun _ _=>True) (fun i=>s.length - i.i) ⟨0,Nat.zero_le _,rfl⟩ ⟨rfl,rfl,trivial⟩ (List.Sublist.refl _) (fun _ h=>h) (fun i=>?_))
 have hle:=i.le
 rcases Nat.lt_or_ge i.i s.length with hi | hi
 ·
  refine QG<|QB ?_
  obtain ⟨c,wd,hdec,hcase⟩:=Ln hi
  refine Fg rfl .here hi hdec<|QA (QK rfl rfl)<|QF<|QD<|QG<|K8 rfl<|QN<|QD<|Qa<|QG<|QB<|QA (QK rfl rfl)<|QA (QK rfl rfl)<|QA (QE rfl)<|QA (QE rfl)<|QF<|QD ?_
  refine Vd 5 (.bool (Ua c)) ?_ ?_
  ·
   refine QB<|QA (QC rfl)<|QA (QU rfl rfl rfl)<|QA (QC rfl) ?_
   refine Qk (t:=14) rfl (fun hb14=>?_) (fun hb14=>?_)
   ·
    refine QJ rfl rfl<|QA (QC rfl)<|QJ rfl rfl<|QA (QU rfl rfl rfl)<|QA (Qi rfl rfl rfl)<|QA (QC rfl) ?_
    refine Qk (t:=18) rfl (fun hb18=>?_) (fun hb18=>?_)
    ·
     refine QR rfl rfl rfl<|QR rfl rfl rfl<|QR rfl rfl rfl<|JO rfl rfl<|JO rfl rfl<|QR rfl rfl rfl<|QA (Qi rfl rfl rfl)<|QA (QE rfl)<|QF ?_
     exact Jp (.cons rfl (.cons rfl (.cons rfl (.cons rfl (.cons rfl (.cons rfl (.cons rfl (.cons rfl (.cons rfl (.cons rfl (.cons rfl (.cons rfl (.cons rfl (.cons rfl (.cons rfl (.cons rfl (.cons rfl .refl))))))))))))))))) (congrArg (fun b=>some (Value.bool b)) (by rw [Bool.eq_iff_iff];simp_all [Ua];try omega)) (List.Sublist.refl _) (fun _ h=>h)
    ·
     refine QJ rfl rfl<|QA (QC rfl)<|QJ rfl rfl<|QA (QU rfl rfl rfl)<|QJ rfl rfl<|QA (QC rfl) ?_
     refine Qk (t:=21) rfl (fun hb21=>?_) (fun hb21=>?_)
     ·
      refine QJ rfl rfl<|QA (QC rfl)<|QJ rfl rfl<|QA (QU rfl rfl rfl)<|QJ rfl rfl<|QA (Qi rfl rfl rfl)<|QA (Qh rfl rfl rfl)<|QA (QE rfl)<|QF ?_
      exact Jp (.cons rfl (.cons rfl (.cons rfl (.cons rfl (.cons rfl (.cons rfl (.cons rfl (.cons rfl (.cons rfl (.cons rfl (.cons rfl (.cons rfl (.cons rfl (.cons rfl (.cons rfl (.cons rfl (.cons rfl (.cons rfl .refl)))))))))))))))))) (congrArg (fun b=>some (Value.bool b)) (by rw [Bool.eq_iff_iff];simp_all [Ua];try omega)) (List.Sublist.refl _) (fun _ h=>h)
     ·
      refine QR rfl rfl rfl<|QR rfl rfl rfl<|QJ rfl rfl<|QA (Qh rfl rfl rfl)<|QA (Qh rfl rfl rfl)<|QA (QE rfl)<|QF ?_
      exact Jp (.cons rfl (.cons rfl (.cons rfl (.cons rfl (.cons rfl (.cons rfl (.cons rfl (.cons rfl (.cons rfl (.cons rfl (.cons rfl (.cons rfl (.cons rfl (.cons rfl (.cons rfl (.cons rfl (.cons rfl (.cons rfl .refl)))))))))))))))))) (congrArg (fun b=>some (Value.bool b)) (by rw [Bool.eq_iff_iff];simp_all [Ua];try omega)) (List.Sublist.refl _) (fun _ h=>h)
   ·
    refine QR rfl rfl rfl<|QR rfl rfl rfl<|QA (Qh rfl rfl rfl)<|QA (QC rfl)<|QJ rfl rfl<|QA (QC rfl)<|QJ rfl rfl<|QA (QU rfl rfl rfl)<|QJ rfl rfl<|QA (QC rfl) ?_
    refine Qk (t:=21) rfl (fun hb21=>?_) (fun hb21=>?_)
    ·
     refine QJ rfl rfl<|QA (QC rfl)<|QJ rfl rfl<|QA (QU rfl rfl rfl)<|QJ rfl rfl<|QA (Qi rfl rfl rfl)<|QA (Qh rfl rfl rfl)<|QA (QE rfl)<|QF ?_
     exact Jp (.cons rfl (.cons rfl (.cons rfl (.cons rfl (.cons rfl (.cons rfl (.cons rfl (.cons rfl (.cons rfl (.cons rfl (.cons rfl (.cons rfl (.cons rfl (.cons rfl (.cons rfl (.cons rfl (.cons rfl .refl))))))))))))))))) (congrArg (fun b=>some (Value.bool b)) (by rw [Bool.eq_iff_iff];simp_all [Ua];try omega)) (List.Sublist.refl _) (fun _ h=>h)
    ·
     refine QR rfl rfl rfl<|QR rfl rfl rfl<|QJ rfl rfl<|QA (Qh rfl rfl rfl)<|QA (Qh rfl rfl rfl)<|QA (QE rfl)<|QF ?_
     exact Jp (.cons rfl (.cons rfl (.cons rfl (.cons rfl (.cons rfl (.cons rfl (.cons rfl (.cons rfl (.cons rfl (.cons rfl (.cons rfl (.cons rfl (.cons rfl (.cons rfl (.cons rfl (.cons rfl (.cons rfl .refl))))))))))))))))) (congrArg (fun b=>some (Value.bool b)) (by rw [Bool.eq_iff_iff];simp_all [Ua];try omega)) (List.Sublist.refl _) (fun _ h=>h)
  ·
   refine Vd 43 (.bool (N1 i.i c)) ?_ ?_
   ·
    refine QB<|QA (QC rfl)<|QA (ZO rfl)<|QA (QC rfl) ?_
    refine Qk (t:=28) rfl (fun hb28=>?_) (fun hb28=>?_)
    ·
     refine QJ rfl rfl<|QA (QC rfl)<|QJ rfl rfl<|QA (QU rfl rfl rfl)<|QJ rfl rfl<|QA (QC rfl) ?_
     refine Qk (t:=31) rfl (fun hb31=>?_) (fun hb31=>?_)
     ·
      refine QR rfl rfl rfl<|QR rfl rfl rfl<|QR rfl rfl rfl<|JO rfl rfl<|JO rfl rfl<|JO rfl rfl<|JO rfl rfl<|JO rfl rfl<|JO rfl rfl<|QR rfl rfl rfl<|QJ rfl rfl<|QA (Qi rfl rfl rfl)<|QA (Qi rfl rfl rfl)<|QF ?_
      exact Jp (.cons rfl (.cons rfl (.cons rfl (.cons rfl (.cons rfl (.cons rfl (.cons rfl (.cons rfl (.cons rfl (.cons rfl (.cons rfl (.cons rfl (.cons rfl (.cons rfl (.cons rfl (.cons rfl (.cons rfl (.cons rfl (.cons rfl (.cons rfl .refl)))))))))))))))))))) (congrArg (fun b=>some (Value.bool b)) (by rw [Bool.eq_iff_iff];simp_all [N1];try omega)) (List.Sublist.refl _) (fun _ h=>h)
     ·
      refine QJ rfl rfl<|QA (QC rfl)<|QJ rfl rfl<|QA (QU rfl rfl rfl)<|QJ rfl rfl<|QA (QC rfl) ?_
      refine Qk (t:=34) rfl (fun hb34=>?_) (fun hb34=>?_)
      ·
       refine QJ rfl rfl<|QA (QC rfl)<|QJ rfl rfl<|QA (QU rfl rfl rfl)<|QJ rfl rfl<|QA (QC rfl) ?_
       refine Qk (t:=37) rfl (fun hb37=>?_) (fun hb37=>?_)
       ·
        refine QR rfl rfl rfl<|QR rfl rfl rfl<|QJ rfl rfl<|QA (Qi rfl rfl rfl)<|QJ rfl rfl<|QA (Qi rfl rfl rfl)<|QJ rfl rfl<|QA (Qh rfl rfl rfl)<|QA (Qi rfl rfl rfl)<|QF ?_
        exact Jp (.cons rfl (.cons rfl (.cons rfl (.cons rfl (.cons rfl (.cons rfl (.cons rfl (.cons rfl (.cons rfl (.cons rfl (.cons rfl (.cons rfl (.cons rfl (.cons rfl (.cons rfl (.cons rfl (.cons rfl (.cons rfl (.cons rfl (.cons rfl (.cons rfl (.cons rfl .refl)))))))))))))))))))))) (congrArg (fun b=>some (Value.bool b)) (by rw [Bool.eq_iff_iff];simp_all [N1];try omega)) (List.Sublist.refl _) (fun _ h=>h)
       ·
        refine QJ rfl rfl<|QA (QC rfl)<|QJ rfl rfl<|QA (QU rfl rfl rfl)<|QJ rfl rfl<|QA (Qh rfl rfl rfl)<|QJ rfl rfl<|QA (Qi rfl rfl rfl)<|QJ rfl rfl<|QA (Qh rfl rfl rfl)<|QA (Qi rfl rfl rfl)<|QF ?_
        exact Jp (.cons rfl (.cons rfl (.cons rfl (.cons rfl (.cons rfl (.cons rfl (.cons rfl (.cons rfl (.cons rfl (.cons rfl (.cons rfl (.cons rfl (.cons rfl (.cons rfl (.cons rfl (.cons rfl (.cons rfl (.cons rfl (.cons rfl (.cons rfl (.cons rfl (.cons rfl .refl)))))))))))))))))))))) (congrArg (fun b=>some (Value.bool b)) (by rw [Bool.eq_iff_iff];simp_all [N1];try omega)) (List.Sublist.refl _) (fun _ h=>h)
      ·
       refine QR rfl rfl rfl<|QR rfl rfl rfl<|QR rfl rfl rfl<|JO rfl rfl<|JO rfl rfl<|QR rfl rfl rfl<|QJ rfl rfl<|QA (Qh rfl rfl rfl)<|QJ rfl rfl<|QA (Qh rfl rfl rfl)<|QA (Qi rfl rfl rfl)<|QF ?_
       exact Jp (.cons rfl (.cons rfl (.cons rfl (.cons rfl (.cons rfl (.cons rfl (.cons rfl (.cons rfl (.cons rfl (.cons rfl (.cons rfl (.cons rfl (.cons rfl (.cons rfl (.cons rfl (.cons rfl (.cons rfl (.cons rfl (.cons rfl (.cons rfl (.cons rfl .refl))))))))))))))))))))) (congrArg (fun b=>some (Value.bool b)) (by rw [Bool.eq_iff_iff];simp_all [N1];try omega)) (List.Sublist.refl _) (fun _ h=>h)
    ·
     refine QR rfl rfl rfl<|QR rfl rfl rfl<|QR rfl rfl rfl<|JO rfl rfl<|JO rfl rfl<|JO rfl rfl<|JO rfl rfl<|JO rfl rfl<|JO rfl rfl<|JO rfl rfl<|JO rfl rfl<|JO rfl rfl<|JO rfl rfl<|QR rfl rfl rfl<|QA (Qh rfl rfl rfl)<|QF ?_
     exact Jp (.cons rfl (.cons rfl (.cons rfl (.cons rfl (.cons rfl (.cons rfl (.cons rfl (.cons rfl (.cons rfl (.cons rfl (.cons rfl (.cons rfl (.cons rfl (.cons rfl (.cons rfl (.cons rfl (.cons rfl (.cons rfl (.cons rfl .refl))))))))))))))))))) (congrArg (fun b=>some (Value.bool b)) (by rw [Bool.eq_iff_iff];simp_all [N1];try omega)) (List.Sublist.refl _) (fun _ h=>h)
   ·
    refine QO rfl (fun hc=>?_) (fun hc=>?_)
    ·
     refine QG<|QB<|QA (QE rfl)<|QF<|QD<|QS ?_
     repeat (first | refine JN ?_ | refine JE ?_)
     exact QQ () rfl (.tmp rfl .nil) (congrArg Value.bool (by have hb:N1 i.i s[i.i].toNat=true:=(by rcases hcase with ⟨_,h2,_⟩ | ⟨h2,_⟩;rw [← h2];exact hc;exact RW h2);unfold P9;rw [i.h,NJ hi,hb];rfl)) (fun _ _=>trivial)
    ·
     refine QN<|Qm ?_
     rcases hcase with ⟨h1,rfl,rfl⟩ | ⟨_,h2⟩
     ·exact Qo (⟨i.i+1,by omega,i.h.trans (by rw [NJ hi,hc];rfl)⟩:G6 s.length (fun i=>HQ 0 s=HQ i (s.drop i))) (by show s.length - (i.i+1)<s.length - i.i;omega) ⟨rfl,rfl,trivial⟩ (List.Sublist.refl _) (fun _ h=>trivial)
     ·rw [RW h2] at hc;cases hc
 ·
  refine QG<|QB<|Fh rfl .here hi<|QA (QK rfl rfl)<|QF<|QD<|QG<|Zw rfl<|Q6 ?_
  repeat (first | refine Qc ?_ | refine QX (by rfl) ?_)
  refine Qd<|QD<|QG<|QB<|QA (QC rfl)<|QA (Jo rfl J5)<|QA (QU rfl rfl rfl)<|QA (QC rfl) ?_
  refine Qk (t:=47) rfl (fun hb47=>?_) (fun hb47=>?_)
  ·
   refine QJ rfl rfl<|QA (QC rfl)<|QJ rfl rfl<|QA (Jo rfl J5)<|QJ rfl rfl<|QA (QU rfl rfl rfl)<|QA (Qi rfl rfl rfl)<|QA (QE rfl)<|QF<|QD<|QS ?_
   exact QQ () rfl (.tmp rfl .nil) (congrArg Value.bool (by have e:=i.h;rw [List.drop_of_length_le hi] at e;unfold P9;rw [e];have h0:=hb47;rw [Bool.eq_iff_iff];simp [HQ] at *;(try subst h0);(try simp);try omega)) (fun _ _=>trivial)
  ·
   refine QR rfl rfl rfl<|QR rfl rfl rfl<|QR rfl rfl rfl<|QA (Qh rfl rfl rfl)<|QA (QE rfl)<|QF<|QD<|QS ?_
   exact QQ () rfl (.tmp rfl .nil) (congrArg Value.bool (by have e:=i.h;rw [List.drop_of_length_le hi] at e;unfold P9;rw [e];have h0:=hb47;rw [Bool.eq_iff_iff];simp [HQ] at *;(try subst h0);(try simp);try omega)) (fun _ _=>trivial)
end
section
open Go.RowKit Ig
def ahead (p:UInt8→Bool) (s:List UInt8):Nat:=(s.takeWhile (fun c=>!p c)).length
theorem RY {p:UInt8→Bool} {s:List UInt8} {i:Nat} (hi:i<s.length) (h:(s.take i).all (fun c=>!p c)=true) (hp:p s[i]=true):ahead p s=i:=by
 unfold ahead
 have e:s=s.take i++s[i]::s.drop (i+1):=by rw [← List.drop_eq_getElem_cons hi,List.take_append_drop]
 have hl:(s.take i).length=i:=by simp;omega
 rw [e,List.takeWhile_append_of_pos (by simpa using h),List.takeWhile_cons]
 simp [hp];omega
theorem RZ {p:UInt8→Bool} {s:List UInt8} (h:s.all (fun c=>!p c)=true):ahead p s=s.length:=by
 unfold ahead
 induction s with
 |nil=>rfl
 |cons c s ih =>
  simp only [List.all_cons,Bool.and_eq_true] at h
  rw [List.takeWhile_cons,if_pos h.1,List.length_cons,ih h.2,List.length_cons]
theorem Hf {p:UInt8→Bool} {s:List UInt8} {i:Nat} (hi:i<s.length) (h:(s.take i).all p=true) (hp:p s[i]=true):(s.take (i+1)).all p=true:=by
 rw [List.take_succ_eq_append_getElem hi,List.all_append,h];simp [hp]
def Jn (c:UInt8):Bool:=c==47
theorem W3 {c d:UInt8} {z:Int} (hz:z=(d.toNat:Int)):((c.toNat:Int)==z)=(c==d):=by
 rw [Bool.eq_iff_iff]
 simp only [beq_iff_eq]
 constructor
 ·intro h
  apply UInt8.toNat.inj
  omega
 ·rintro rfl
  exact hz.symm
theorem VK {w:World} {F:Gs} {s:List UInt8} (hF:Fits F w) (hl:s.length≤1000000000):QW Tryz.prog 117 [tx s] w F (.int .i64 (ahead Jn s)):=by
 refine QT.intro (G:=fun _=>True) Tryz.func117 rfl (by rfl) rfl rfl hF (fun F' hF'=>trivial)<|QG<|QB<|QA (QE rfl)<|QF<|QD<|QG<|QG<|QB<|QA (QE rfl)<|QF<|QD<|Qa<|XS (ι:=G6 s.length (fun i=>(s.take i).all (fun c=>!Jn c)=true)) (fun i=>[(0,tx s),(3,.int .i64 i.i)]) (fun _=>[]) (fun _ _=>True) (fun i=>s.length - i.i) ⟨0,Nat.zero_le _,rfl⟩ ⟨rfl,rfl,trivial⟩ (List.Sublist.refl _) (fun _ h=>trivial) (fun i=>?_)
 have hle:=i.le
 refine QG<|QG<|QB<|QA (QC rfl)<|QA (QC rfl)<|QA (Jo rfl J5)<|QA (QU rfl rfl rfl)<|QF<|QD ?_
 refine QO rfl (fun hc=>?_) (fun hc=>?_)
 ·
  have hi:i.i<s.length:=by simp at hc;omega
  clear hc
  refine QN<|QD<|QG<|Qa<|QG<|QB<|QA (QC rfl)<|QA (QC rfl)<|QA (KA rfl rfl J5 (hi))<|QA (QU rfl rfl rfl)<|QF<|QD ?_
  refine QO rfl (fun hc=>?_) (fun hc=>?_)
  ·
   refine QG<|QB<|QA (QC rfl)<|QA (QE rfl)<|QF<|QD<|QS ?_
   repeat (first | refine JN ?_ | refine JE ?_)
   exact QQ () rfl (.tmp rfl .nil) (congrArg (fun n:Nat=>Value.int .i64 (n:Int)) (RY hi i.h (by unfold Jn;have:=hc;rw [W3 (d:=47) (z:=47) rfl] at this;simpa using this))) (fun _ _=>trivial)
  ·
   refine QN<|Qm<|QD<|QB<|QA (QC rfl)<|QA (Qw rfl rfl (by omega))<|QA (QE rfl)<|QF ?_
   exact Qo (⟨i.i+1,by omega,Hf hi i.h (by unfold Jn;have:=hc;rw [W3 (d:=47) (z:=47) rfl] at this;simpa using this)⟩:G6 s.length (fun i=>(s.take i).all (fun c=>!Jn c)=true)) (by show s.length - (i.i+1)<s.length - i.i;omega) ⟨rfl,rfl,trivial⟩ (List.Sublist.refl _) (fun _ h=>trivial)
 ·
  refine Q6 ?_
  repeat (first | refine Qc ?_ | refine QX (by rfl) ?_)
  refine Qd<|QD<|QG<|QB<|QA (QC rfl)<|QA (Jo rfl J5)<|QA (QE rfl)<|QF<|QD<|QS ?_
  exact QQ () rfl (.tmp rfl .nil) (congrArg (fun n:Nat=>Value.int .i64 (n:Int)) (RZ (by have e:=i.h;rw [List.take_of_length_le (by simp at hc;omega)] at e;exact e))) (fun _ _=>trivial)
theorem Pu {w:World} {F:Gs} {s:List UInt8} (hF:Fits F w) (hl:s.length≤1000000000):QW Tryz.prog 175 [tx s] w F (.bool (XC s)):=by
 refine QT.intro (G:=fun _=>True) Tryz.func175 rfl (by rfl) rfl rfl hF (fun F' hF'=>trivial)<|QG<|QB<|QA (QE rfl)<|QF<|QD<|QG<|QG<|QB<|QA (QE rfl)<|QF<|QD<|Qa<|XS (ι:=G6 s.length (fun i=>(s.take i).all S1=true)) (fun i=>[(0,tx s),(3,.int .i64 i.i)]) (fun _=>[]) (fun _ _=>True) (fun i=>s.length - i.i) ⟨0,Nat.zero_le _,rfl⟩ ⟨rfl,rfl,trivial⟩ (List.Sublist.refl _) (fun _ h=>trivial) (fun i=>?_)
 have hle:=i.le
 refine QG<|QG<|QB<|QA (QC rfl)<|QA (QC rfl)<|QA (Jo rfl J5)<|QA (QU rfl rfl rfl)<|QF<|QD ?_
 refine QO rfl (fun hc=>?_) (fun hc=>?_)
 ·
  have hi:i.i<s.length:=by simp at hc;omega
  clear hc
  refine QN<|QD<|QG<|Qa<|QG<|QB<|QA (QC rfl)<|QA (QC rfl)<|QA (KA rfl rfl J5 (hi))<|QA (QU rfl rfl rfl)<|QA (QC rfl) ?_
  refine Qk (t:=14) rfl (fun hb14=>?_) (fun hb14=>?_)
  ·
   refine QR rfl rfl rfl<|QR rfl rfl rfl<|QR rfl rfl rfl<|QR rfl rfl rfl<|QA (Qi rfl rfl rfl)<|QF<|QD<|K8 rfl<|QG<|QB<|QA (QE rfl)<|QF<|QD<|QS ?_
   repeat (first | refine JN ?_ | refine JE ?_)
   exact QQ () rfl (.tmp rfl .nil) (congrArg Value.bool (by rw [E9 hi (by have h1:=of_decide_eq_true hb14;cases hd:S1 s[i.i] with | false=>rfl | true=>(have:=YA.1 hd;omega))])) (fun _ _=>trivial)
  ·
   refine QJ rfl rfl<|QA (QC rfl)<|QJ rfl rfl<|QA (QC rfl)<|QJ rfl rfl<|QA (KA rfl rfl J5 (hi))<|QJ rfl rfl<|QA (QU rfl rfl rfl)<|QA (Qh rfl rfl rfl)<|QF<|QD ?_
   refine QO rfl (fun hc=>?_) (fun hc=>?_)
   ·
    refine QG<|QB<|QA (QE rfl)<|QF<|QD<|QS ?_
    repeat (first | refine JN ?_ | refine JE ?_)
    exact QQ () rfl (.tmp rfl .nil) (congrArg Value.bool (by rw [E9 hi (by have h1:=of_decide_eq_true hc;cases hd:S1 s[i.i] with | false=>rfl | true=>(have:=YA.1 hd;omega))])) (fun _ _=>trivial)
   ·
    refine QN<|Qm<|QD<|QB<|QA (QC rfl)<|QA (Qw rfl rfl (by omega))<|QA (QE rfl)<|QF ?_
    exact Qo (⟨i.i+1,by omega,Hf hi i.h (YA.2 (by have h1:=of_decide_eq_false hb14;have h2:=of_decide_eq_false hc;constructor<;>omega))⟩:G6 s.length (fun i=>(s.take i).all S1=true)) (by show s.length - (i.i+1)<s.length - i.i;omega) ⟨rfl,rfl,trivial⟩ (List.Sublist.refl _) (fun _ h=>trivial)
 ·
  refine Q6 ?_
  repeat (first | refine Qc ?_ | refine QX (by rfl) ?_)
  refine Qd<|QD<|QG<|QB<|QA (QE rfl)<|QF<|QD<|QS ?_
  exact QQ () rfl (.tmp rfl .nil) (congrArg Value.bool (by have e:=i.h;rw [List.take_of_length_le (by simp at hc;omega)] at e;exact e)) (fun _ _=>trivial)
theorem C0 {s:List UInt8} (h1:(1:Int)<(s.length:Int)) (h:s[0]'(by omega)=48):J0 s=false:=by
 cases s with
 |nil=>simp at h1
 |cons c r =>
  have hc:c=48:=h
  subst hc
  have hr:r≠[]:=by intro e;subst e;simp at h1
  simp [J0,hr]
theorem Ld {s:List UInt8} (h1:(1:Int)<(s.length:Int)) (h:¬ s[0]'(by omega)=48):J0 s=XC s:=by
 cases s with
 |nil=>simp at h1
 |cons c r =>
  have hc:¬ c=48:=h
  simp [J0,hc]
theorem Cz {s:List UInt8} (h0:0<s.length) (h1:s.length≤1):J0 s=XC s:=by
 match s,h0,h1 with
 |[c],_,_ =>
  by_cases hc:c=48
  ·subst hc;rfl
  ·simp [J0,hc]
theorem F3 {w:World} {F:Gs} {s:List UInt8} (hF:Fits F w) (hl:s.length≤1000000000):QW Tryz.prog 118 [tx s] w F (.bool (J0 s)):=by
 refine QT.intro (G:=fun _=>True) Tryz.func118 rfl (by rfl) rfl rfl hF (fun F' hF'=>trivial)<|QG<|QB<|QA (QE rfl)<|QF<|QD<|QG<|QG<|QB<|QA (QC rfl)<|QA (Jo rfl J5)<|QA (QU rfl rfl rfl)<|QA (QC rfl) ?_
 refine Qk (t:=6) rfl (fun hb6=>?_) (fun hb6=>?_)
 ·
  refine QR rfl rfl rfl<|QR rfl rfl rfl<|QR rfl rfl rfl<|QR rfl rfl rfl<|JO rfl rfl<|JO rfl rfl<|JO rfl rfl<|QR rfl rfl rfl<|QA (Qi rfl rfl rfl)<|QF<|QD<|K8 rfl<|QG<|QB<|QA (QE rfl)<|QF<|QD<|QS ?_
  exact QQ () rfl (.tmp rfl .nil) (congrArg Value.bool (by have h0:s=[]:=(by simpa using hb6);subst h0;rfl)) (fun _ _=>trivial)
 ·
  refine QJ rfl rfl<|QA (QC rfl)<|QJ rfl rfl<|QA (Jo rfl J5)<|QJ rfl rfl<|QA (QU rfl rfl rfl)<|QJ rfl rfl<|QA (QC rfl) ?_
  refine Qk (t:=10) rfl (fun hb10=>?_) (fun hb10=>?_)
  ·
   refine QJ rfl rfl<|QA (QC rfl)<|QJ rfl rfl<|QA (KA (i:=0) rfl rfl J5 (by have:=of_decide_eq_true hb10;omega))<|QJ rfl rfl<|QA (QU rfl rfl rfl)<|QJ rfl rfl<|QA (Qi rfl rfl rfl)<|QA (Qh rfl rfl rfl)<|QF<|QD ?_
   refine QO rfl (fun hc=>?_) (fun hc=>?_)
   ·
    refine QG<|QB<|QA (QE rfl)<|QF<|QD<|QS ?_
    exact QQ () rfl (.tmp rfl .nil) (congrArg Value.bool (C0 (of_decide_eq_true hb10) (by have h:=hc;rw [W3 (d:=48) (z:=48) rfl] at h;simpa using h))) (fun _ _=>trivial)
   ·
    refine QN<|QD<|QG<|QB<|QA (QC rfl)<|QH rfl (fun w F hF _=>Pu hF hl) (fun _=>QA (QE rfl)<|QF<|QD<|QS ?_)
    exact QQ () rfl (.tmp rfl .nil) (congrArg Value.bool (Ld (of_decide_eq_true hb10) (by have h:=hc;rw [W3 (d:=48) (z:=48) rfl] at h;simpa using h))) (fun _ _=>trivial)
  ·
   refine QR rfl rfl rfl<|QR rfl rfl rfl<|QR rfl rfl rfl<|QJ rfl rfl<|QA (Qh rfl rfl rfl)<|QA (Qh rfl rfl rfl)<|QF<|QD<|Zw rfl<|QN<|QD<|QG<|QB<|QA (QC rfl)<|QH rfl (fun w F hF _=>Pu hF hl) (fun _=>QA (QE rfl)<|QF<|QD<|QS ?_)
   exact QQ () rfl (.tmp rfl .nil) (congrArg Value.bool (Cz (List.length_pos_iff.2 (by simpa using hb6)) (by have h:=of_decide_eq_false hb10;omega))) (fun _ _=>trivial)
end
section
open Go.RowKit Ig
def Wt (s:List UInt8):Int:=if s=[48] then 0 else if Lib.hasPrefix s [45]=true then -1 else 1
def Ar (s:List UInt8):List UInt8:=if Wt s<0 then s.drop 1 else if Wt s=0 then s else 45::s
def U4 (s:List UInt8):List UInt8:=if Wt s<0 then s.drop 1 else s
def numOf (s:List UInt8):List UInt8:=s.take (ahead Jn s)
def EP (s:List UInt8):List UInt8:=if ahead Jn s=s.length then [49] else s.drop (ahead Jn s+1)
def GI (s:List UInt8):Int:=if(decide (600<(U4 (numOf s)).length)||decide (600<(EP s).length))=true then 4 else 0
theorem Yw (p:UInt8→Bool) (s:List UInt8):ahead p s≤s.length:=(List.takeWhile_sublist _).length_le
theorem Yt {s:List UInt8} (h:0<s.length):Lib.hasPrefix s [45]=(s[0]==45):=by
 cases s with
 |nil=>simp at h
 |cons c r =>
  have e:Lib.hasPrefix (c::r) [45]=(45==c):=by simp [Lib.hasPrefix,List.isPrefixOf]
  rw [e,Bool.eq_iff_iff]
  simp only [List.getElem_cons_zero,beq_iff_eq]
  exact⟨fun h=>h.symm,fun h=>h.symm⟩
theorem BP {s:List UInt8} (h:Wt s<0):0<s.length:=by
 cases s with
 |nil=>exact absurd h (by decide)
 |cons=>simp
theorem E7 {w:World} {F:Gs} {s:List UInt8} (hF:Fits F w):QW Tryz.prog 38 [tx s] w F (.int .i64 (Wt s)):=by
 refine QT.intro (G:=fun _=>True) Tryz.func38 rfl (by rfl) rfl rfl hF (fun F' hF'=>trivial)<|QG<|QB<|QA (QE rfl)<|QF<|QD<|QG<|QG<|QB<|QA (QC rfl)<|QA (Zy rfl rfl)<|QF<|QD ?_
 refine QO rfl (fun hc4=>?_) (fun hc4=>?_)
 ·
  refine QG<|QB<|QA (QE rfl)<|QF<|QD<|QS ?_
  exact QQ () rfl (.tmp rfl .nil) (congrArg (Value.int .i64) (by unfold Wt;rw [if_pos (by simpa using hc4)])) (fun _ _=>trivial)
 ·
  refine QN<|QD<|QG<|QG<|QB<|QA (QC rfl)<|QA (Jo rfl V8)<|QA (QU rfl rfl rfl)<|QA (QC rfl) ?_
  refine Qk (t:=8) rfl (fun hb8=>?_) (fun hb8=>?_)
  ·
   refine QJ rfl rfl<|QA (QC rfl)<|QJ rfl rfl<|QA (KA (i:=0) rfl rfl V8 (by have:=of_decide_eq_true hb8;omega))<|QJ rfl rfl<|QA (QU rfl rfl rfl)<|QA (Qi rfl rfl rfl)<|QF<|QD ?_
   refine QO rfl (fun hc=>?_) (fun hc=>?_)
   ·
    refine QG<|QB<|QA (QE rfl)<|QF<|QD<|QS ?_
    exact QQ () rfl (.tmp rfl .nil) (congrArg (Value.int .i64) (by unfold Wt;rw [if_neg (by simpa using hc4),if_pos];rw [Yt (by have:=of_decide_eq_true hb8;omega),← W3 (z:=45) rfl];exact hc)) (fun _ _=>trivial)
   ·
    refine QN<|QD<|QG<|QB<|QA (QE rfl)<|QF<|QD<|QS ?_
    exact QQ () rfl (.tmp rfl .nil) (congrArg (Value.int .i64) (by unfold Wt;rw [if_neg (by simpa using hc4),if_neg];rw [Yt (by have:=of_decide_eq_true hb8;omega),← W3 (z:=45) rfl,hc];decide)) (fun _ _=>trivial)
  ·
   refine QR rfl rfl rfl<|QR rfl rfl rfl<|QR rfl rfl rfl<|QA (Qh rfl rfl rfl)<|QF<|QD<|Zw rfl<|QN<|QD<|QG<|QB<|QA (QE rfl)<|QF<|QD<|QS ?_
   exact QQ () rfl (.tmp rfl .nil) (congrArg (Value.int .i64) (by have h0:s=[]:=(by have:=hb8;simp at this;exact this);subst h0;rfl)) (fun _ _=>trivial)
theorem zN {w:World} {F:Gs} {s:List UInt8} (hF:Fits F w) (hl:s.length≤1000000000):QW Tryz.prog 35 [tx s] w F (tx (Ar s)):=by
 refine QT.intro (G:=fun _=>True) Tryz.func35 rfl (by rfl) rfl rfl hF (fun F' hF'=>trivial)<|QG<|QB<|QA (QE rfl)<|QF<|QD<|QG<|QG<|QB<|QA (QC rfl)<|QH rfl (fun w F hF _=>E7 hF ) (fun _=>QA (QU rfl rfl rfl)<|QF<|QD ?_)
 refine QO rfl (fun hc5=>?_) (fun hc5=>?_)
 ·
  refine QG<|QB<|QA (QC rfl)<|QA (Zr 1 rfl rfl V8 rfl (BP (of_decide_eq_true hc5)))<|QA (QE rfl)<|QF<|QD<|QS ?_
  exact QQ () rfl (.tmp rfl .nil) (congrArg tx (by unfold Ar;rw [if_pos (of_decide_eq_true hc5)])) (fun _ _=>trivial)
 ·
  refine QN<|QD<|QG<|QG<|QB<|QA (QC rfl)<|QH rfl (fun w F hF ⟨_,_⟩=>E7 hF ) (fun _=>QA (QU rfl rfl rfl)<|QF<|QD ?_)
  refine QO rfl (fun hc10=>?_) (fun hc10=>?_)
  ·
   refine QG<|QB<|QA (QC rfl)<|QA (QE rfl)<|QF<|QD<|QS ?_
   exact QQ () rfl (.tmp rfl .nil) (congrArg tx (by unfold Ar;rw [if_neg (of_decide_eq_false hc5),if_pos (by simpa using hc10)])) (fun _ _=>trivial)
  ·
   refine QN<|QD<|QG<|QB<|QA (QC rfl)<|QA (XO rfl rfl (by simp;omega))<|QA (QE rfl)<|QF<|QD<|QS ?_
   exact QQ () rfl (.tmp rfl .nil) (congrArg tx (by unfold Ar;rw [if_neg (of_decide_eq_false hc5),if_neg (by simpa using hc10)];rfl)) (fun _ _=>trivial)
theorem zS {w:World} {F:Gs} {s:List UInt8} (hF:Fits F w):QW Tryz.prog 33 [tx s] w F (tx (U4 s)):=by
 refine QT.intro (G:=fun _=>True) Tryz.func33 rfl (by rfl) rfl rfl hF (fun F' hF'=>trivial)<|QG<|QB<|QA (QE rfl)<|QF<|QD<|QG<|QG<|QB<|QA (QC rfl)<|QH rfl (fun w F hF _=>E7 hF ) (fun _=>QA (QU rfl rfl rfl)<|QF<|QD ?_)
 refine QO rfl (fun hc=>?_) (fun hc=>?_)
 ·
  refine QG<|QB<|QA (QC rfl)<|QA (Zr 1 rfl rfl V8 rfl (BP (of_decide_eq_true hc)))<|QA (QE rfl)<|QF<|QD<|QS ?_
  exact QQ () rfl (.tmp rfl .nil) (congrArg tx (by unfold U4;rw [if_pos (of_decide_eq_true hc)])) (fun _ _=>trivial)
 ·
  refine QN<|QD<|QG<|QB<|QA (QC rfl)<|QA (QE rfl)<|QF<|QD<|QS ?_
  exact QQ () rfl (.tmp rfl .nil) (congrArg tx (by unfold U4;rw [if_neg (of_decide_eq_false hc)])) (fun _ _=>trivial)
theorem Fx {w:World} {F:Gs} {s:List UInt8} (hF:Fits F w):QW Tryz.prog 94 [tx s] w F (.bool (s==[48])):=by
 refine QT.intro (G:=fun _=>True) Tryz.func94 rfl (by rfl) rfl rfl hF (fun F' hF'=>trivial)<|QG<|QB<|QA (QE rfl)<|QF<|QD<|QG<|QB<|QA (QC rfl)<|QA (Zy rfl rfl)<|QA (QE rfl)<|QF<|QD<|QS ?_
 exact QQ () rfl (.tmp rfl .nil) (rfl) (fun _ _=>trivial)
theorem Oi {w:World} {F:Gs} {s:List UInt8} (hF:Fits F w) (hl:s.length≤1000000000):QW Tryz.prog 36 [tx s] w F (.bool (ahead Jn s==s.length)):=by
 refine QT.intro (G:=fun _=>True) Tryz.func36 rfl (by rfl) rfl rfl hF (fun F' hF'=>trivial)<|QG<|QB<|QA (QE rfl)<|QF<|QD<|QG<|QB<|QA (QC rfl)<|QH rfl (fun w F hF _=>VK hF hl) (fun _=>QA (QC rfl)<|QA (Jo rfl V8)<|QA (QU rfl rfl rfl)<|QA (QE rfl)<|QF<|QD<|QS ?_)
 exact QQ () rfl (.tmp rfl .nil) (congrArg Value.bool (by rw [Bool.eq_iff_iff];simp;try omega)) (fun _ _=>trivial)
theorem zM {w:World} {F:Gs} {s:List UInt8} (hF:Fits F w) (hl:s.length≤1000000000):QW Tryz.prog 204 [tx s] w F (tx (numOf s)):=by
 refine QT.intro (G:=fun _=>True) Tryz.func204 rfl (by rfl) rfl rfl hF (fun F' hF'=>trivial)<|QG<|QB<|QA (QE rfl)<|QF<|QD<|QG<|QB<|QA (QC rfl)<|QA (QC rfl)<|QH rfl (fun w F hF _=>VK hF hl) (fun _=>QA (Vq (ahead Jn s) rfl rfl V8 rfl (Yw _ _))<|QA (QE rfl)<|QF<|QD<|QS ?_)
 exact QQ () rfl (.tmp rfl .nil) (rfl) (fun _ _=>trivial)
theorem zQ {w:World} {F:Gs} {s:List UInt8} (hF:Fits F w) (hl:s.length≤1000000000):QW Tryz.prog 205 [tx s] w F (tx (EP s)):=by
 refine QT.intro (G:=fun _=>True) Tryz.func205 rfl (by rfl) rfl rfl hF (fun F' hF'=>trivial)<|QG<|QB<|QA (QE rfl)<|QF<|QD<|QG<|QB<|QA (QC rfl)<|QH rfl (fun w F hF _=>VK hF hl) (fun _=>QA (QE rfl)<|QF<|QD<|QG<|QG<|QB<|QA (QC rfl)<|QA (QC rfl)<|QA (Jo rfl V8)<|QA (QU rfl rfl rfl)<|QF<|QD ?_)
 refine QO rfl (fun hc=>?_) (fun hc=>?_)
 ·
  refine QG<|QB<|QA (QE rfl)<|QF<|QD<|QS ?_
  exact QQ () rfl (.tmp rfl .nil) (congrArg tx (by unfold EP;rw [if_pos (by simp at hc;omega)])) (fun _ _=>trivial)
 ·
  refine QN<|QD<|QG<|QB<|QA (QC rfl)<|QA (QC rfl)<|QA (Qw rfl rfl (by have:=Yw Jn s;omega))<|QA (Zr (ahead Jn s+1) rfl rfl V8 rfl (by have:=Yw Jn s;simp at hc;omega))<|QA (QE rfl)<|QF<|QD<|QS ?_
  exact QQ () rfl (.tmp rfl .nil) (congrArg tx (by unfold EP;rw [if_neg (by simp at hc;omega)])) (fun _ _=>trivial)
theorem Ot {w:World} {F:Gs} {s:List UInt8} (hF:Fits F w) (hl:s.length≤1000000000):QW Tryz.prog 124 [tx s] w F (.int .i64 (GI s)):=by
 refine QT.intro (G:=fun _=>True) Tryz.func124 rfl (by rfl) rfl rfl hF (fun F' hF'=>trivial)<|QG<|QB<|QA (QE rfl)<|QF<|QD<|QG<|QG<|QB<|QA (QC rfl)<|QH rfl (fun w F hF _=>zM hF hl) (fun _=>QH rfl (fun w F hF ⟨_,_⟩=>zS hF ) (fun _=>QA (Jo rfl V8)<|QA (QU rfl rfl rfl)<|QA (QC rfl) ?_))
 refine Qk (t:=8) rfl (fun hb8=>?_) (fun hb8=>?_)
 ·
  refine QR rfl rfl rfl<|QR rfl rfl rfl<|QR rfl rfl rfl<|QR rfl rfl rfl<|QA (Qi rfl rfl rfl)<|QF<|QD<|K8 rfl<|QG<|QB<|QA (QE rfl)<|QF<|QD<|QS ?_
  exact QQ () rfl (.tmp rfl .nil) (congrArg (Value.int .i64) (by have h:=of_decide_eq_true hb8;unfold GI;rw [if_pos (by rw [decide_eq_true (by omega)];rfl)])) (fun _ _=>trivial)
 ·
  refine QJ rfl rfl<|QA (QC rfl)<|QJ rfl rfl<|QH rfl (fun w F hF ⟨⟨_,_⟩,_⟩=>zQ hF hl) (fun _=>QJ rfl rfl<|QA (Jo rfl V8)<|QJ rfl rfl<|QA (QU rfl rfl rfl)<|QA (Qh rfl rfl rfl)<|QF<|QD ?_)
  refine QO rfl (fun hc=>?_) (fun hc=>?_)
  ·
   refine QG<|QB<|QA (QE rfl)<|QF<|QD<|QS ?_
   exact QQ () rfl (.tmp rfl .nil) (congrArg (Value.int .i64) (by have h:=of_decide_eq_true hc;unfold GI;rw [if_pos (by rw [decide_eq_true (show 600<(EP s).length by omega),Bool.or_true])])) (fun _ _=>trivial)
  ·
   refine QN<|QD<|QG<|QB<|QA (QE rfl)<|QF<|QD<|QS ?_
   exact QQ () rfl (.tmp rfl .nil) (congrArg (Value.int .i64) (by have h:=of_decide_eq_false hc;have h8:=of_decide_eq_false hb8;unfold GI;rw [if_neg (by rw [decide_eq_false (by omega),decide_eq_false (by omega)];decide)])) (fun _ _=>trivial)
end
section
open Go.RowKit Ig
theorem Eh {s:List UInt8} {i:Nat} (hi:i<s.length):JB (s.take (i+1))=JB (s.take i)*10+(s[i].toNat - 48):=by
 rw [List.take_succ_eq_append_getElem hi,Z9,VA];simp
theorem ya {s:List UInt8} {i:Nat} (hi:i<s.length) (h:XC s=true):48≤s[i].toNat∧s[i].toNat≤57:=by
 rw [XC,List.all_eq_true] at h
 exact YA.1 (h _ (List.getElem_mem hi))
theorem BS {w:World} {F:Gs} {s:List UInt8} (hF:Fits F w) (hs:XC s=true) (hl:s.length≤18):QW Tryz.prog 232 [tx s] w F (.int .i64 (JB s)):=by
 refine QT.intro (G:=fun _=>True) Tryz.func232 rfl (by rfl) rfl rfl hF (fun F' hF'=>trivial)<|QG<|QB<|QA (QE rfl)<|QF<|QD<|QG<|QB<|QA (QE rfl)<|QF<|QD<|QG<|QG<|QB<|QA (QE rfl)<|QF<|QD<|Qa<|XS (ι:=G6 s.length (fun _=>True)) (fun i=>[(0,tx s),(3,.int .i64 (JB (s.take i.i))),(4,.int .i64 i.i)]) (fun _=>[]) (fun _ _=>True) (fun i=>s.length - i.i) ⟨0,Nat.zero_le _,trivial⟩ ⟨rfl,rfl,rfl,trivial⟩ (List.Sublist.refl _) (fun _ h=>trivial) (fun i=>?_)
 have hle:=i.le
 have hlt:=VL (Gu hs i.i)
 have hp18:(10:Nat)^(s.take i.i).length≤10^18:=Nat.pow_le_pow_right (by decide) (by simp;omega)
 refine QG<|QG<|QB<|QA (QC rfl)<|QA (QC rfl)<|QA (Jo rfl J5)<|QA (QU rfl rfl rfl)<|QF<|QD ?_
 refine QO rfl (fun hc=>?_) (fun hc=>?_)
 ·
  have hi:i.i<s.length:=by simp at hc;omega
  have hd:=ya hi hs
  have hp17:(10:Nat)^(s.take i.i).length≤10^17:=Nat.pow_le_pow_right (by decide) (by simp;omega)
  refine QN<|QD<|QG<|Qa<|QB<|QA (QC rfl)<|QA (WB rfl rfl (by omega))<|QA (QC rfl)<|QA (QC rfl)<|QA (KA rfl rfl J5 (hi))<|QA (I9 rfl vO gr (by omega))<|QA (Qw rfl rfl (by omega))<|QA (Jx rfl rfl (by omega))<|QA (QE rfl)<|QF<|Qm<|QD<|QB<|QA (QC rfl)<|QA (Qw rfl rfl (by omega))<|QA (QE rfl)<|QF ?_
  exact Qo (⟨i.i+1,by omega,trivial⟩:G6 s.length (fun _=>True)) (by show s.length - (i.i+1)<s.length - i.i;omega) ⟨rfl,(by show some (Value.int .i64 _)=some (Value.int .i64 _);rw [Eh hi];congr 2;omega),rfl,trivial⟩ (List.Sublist.refl _) (fun _ h=>trivial)
 ·
  refine Q6 ?_
  repeat (first | refine Qc ?_ | refine QX (by rfl) ?_)
  refine Qd<|QD<|QG<|QB<|QA (QC rfl)<|QA (QE rfl)<|QF<|QD<|QS ?_
  exact QQ () rfl (.tmp rfl .nil) (congrArg (Value.int .i64) (by rw [List.take_of_length_le (by simp at hc;omega)])) (fun _ _=>trivial)
structure kz (a b:Nat) where
 x:Nat
 y:Nat
 h:Nat.gcd x y=Nat.gcd a b
 hx:x≤9223372036854775807
 hy:y≤9223372036854775807
theorem zO {w:World} {F:Gs} {a b:Nat} (hF:Fits F w) (ha:a≤9223372036854775807) (hb:b≤9223372036854775807):QW Tryz.prog 181 [.int .i64 (a:Int),.int .i64 (b:Int)] w F (.int .i64 (Nat.gcd a b:Nat)):=by
 refine QT.intro (G:=fun _=>True) Tryz.func181 rfl (by rfl) rfl rfl hF (fun F' hF'=>trivial)<|QG<|QB<|QA (QE rfl)<|QF<|QD<|QG<|Qa<|XS (ι:=kz a b) (fun i=>[(0,.int .i64 (i.x:Int)),(1,.int .i64 (i.y:Int))]) (fun _=>[]) (fun _ _=>True) (fun i=>i.y) ⟨a,b,rfl,ha,hb⟩ ⟨rfl,rfl,trivial⟩ (List.Sublist.refl _) (fun _ h=>trivial) (fun i=>?_)
 have hx:=i.hx
 have hy:=i.hy
 refine QG<|QG<|QB<|QA (QC rfl)<|QA (QU rfl rfl rfl)<|QF<|QD ?_
 refine QO rfl (fun hc=>?_) (fun hc=>?_)
 ·
  have hpos:0<i.y:=by simp at hc;omega
  refine QN<|QD<|Qa<|JQ (List.Sublist.refl _) mixed (by kernel_rfl)<|QM (QC rfl)<|QM (QC rfl)<|QM (QC rfl)<|QM (Y9 rfl rfl (by omega) (by omega))<|QM (QE rfl)<|QM (QE rfl)<|Q3<|Qm ?_
  exact Qo (⟨i.y,i.x%i.y,by rw [← i.h,Nat.gcd_comm i.x,Nat.gcd_rec i.y i.x,Nat.gcd_comm],hy,by have:=Nat.mod_lt i.x hpos;omega⟩:kz a b) (Nat.mod_lt i.x hpos) ⟨rfl,rfl,trivial⟩ (List.Sublist.refl _) (fun _ h=>trivial)
 ·
  refine Q6 ?_
  repeat (first | refine Qc ?_ | refine QX (by rfl) ?_)
  refine Qd<|QD<|QG<|QB<|QA (QC rfl)<|QA (QE rfl)<|QF<|QD<|QS ?_
  exact QQ () rfl (.tmp rfl .nil) (congrArg (fun n:Nat=>Value.int .i64 (n:Int)) (by have h0:i.y=0:=(by simp at hc;omega);rw [← i.h,h0,Nat.gcd_zero_right])) (fun _ _=>trivial)
def Ds (n least:Nat):List UInt8:=VP least (hd n)
theorem IQ {n:Nat} (h:0<n):hd n=hd (n / 10)++[UInt8.ofNat (48+n%10)]:=by
 unfold hd
 rw [if_neg (by omega)]
 by_cases h0:n / 10=0
 ·rw [if_pos h0,Lib.decDigits,dif_pos (by omega),Nat.mod_eq_of_lt (by omega)];rfl
 ·rw [if_neg h0,Lib.decDigits.eq_1 n,dif_neg (by omega)]
theorem FF {n:Nat} (h:n≤9223372036854775807):(hd n).length≤20:=by
 unfold hd;split
 ·simp
 ·rw [Lib.decDigits_length];exact Zc (by omega) (by decide)
structure OE (n least:Nat) where
 m:Nat
 t:List UInt8
 le:m≤n
 h:VP (least - t.length) (hd m)++t=Ds n least
 tl:t.length+(hd m).length≤least+20
theorem OP {d:Nat} (h:d<10):(([48,49,50,51,52,53,54,55,56,57]:List UInt8).take (d+1)).drop d=[UInt8.ofNat (48+d)]:=by
 match d,h with
 |0,_=>rfl
 |1,_=>rfl
 |2,_=>rfl
 |3,_=>rfl
 |4,_=>rfl
 |5,_=>rfl
 |6,_=>rfl
 |7,_=>rfl
 |8,_=>rfl
 |9,_=>rfl
theorem C9 {n:Nat} {least:Nat} {t:List UInt8} (h:0<n∨t.length<least):VP (least - (UInt8.ofNat (48+n%10)::t).length) (hd (n / 10))++(UInt8.ofNat (48+n%10)::t)=VP (least - t.length) (hd n)++t:=by
 rcases Nat.eq_zero_or_pos n with h0 | h0
 ·subst h0
  have hlt:t.length<least:=by omega
  have e:least - t.length=(least - (t.length+1))+1:=by omega
  simp only [hd,VP,List.length_cons,if_true,List.length_nil,Nat.sub_zero,List.append_nil,Nat.zero_div,Nat.zero_mod]
  rw [e,KP,KP,List.replicate_succ',List.append_assoc]
  rfl
 ·rw [IQ h0]
  unfold VP
  simp only [List.length_append,List.length_cons,List.length_nil]
  rw [show least - (t.length+1) - (hd (n / 10)).length=least - t.length - ((hd (n / 10)).length+(0+1)) by omega]
  simp
def OE.next {n least:Nat} (i:OE n least) (h:0<i.m∨i.t.length<least):OE n least :=
 ⟨i.m / 10,UInt8.ofNat (48+i.m%10)::i.t,by have:=i.le;omega,by rw [C9 h];exact i.h,by
  have:=i.tl
  rcases Nat.eq_zero_or_pos i.m with h0 | h0
  ·have e:hd (i.m / 10)=[]:=by rw [h0];rfl
   rw [e]
   have e2:hd i.m=[]:=by rw [h0];rfl
   rw [e2] at this
   simp at this ⊢;omega
  ·have e:=congrArg List.length (IQ h0)
   simp at e ⊢;omega⟩
theorem Ac {w:World} {F:Gs} {n least:Nat} (hF:Fits F w) (hn:n≤9223372036854775807) (hl:least≤1000):QW Tryz.prog 182 [.int .i64 (n:Int),.int .i64 (least:Int)] w F (tx (Ds n least)):=by
 refine QT.intro (G:=fun _=>True) Tryz.func182 rfl (by rfl) rfl rfl hF (fun F' hF'=>trivial)<|QG<|QB<|QA (QE rfl)<|QF<|QD<|QG<|QB<|QA (QE rfl)<|QF<|QD<|QG<|Qa<|XS (ι:=OE n least) (fun i=>[(0,.int .i64 (i.m:Int)),(1,.int .i64 (least:Int)),(5,tx i.t)]) (fun _=>[]) (fun _ _=>True) (fun i=>i.m+(least - i.t.length)) ⟨n,[],Nat.le_refl _,by unfold Ds;simp,by have:=FF hn;simp;omega⟩ ⟨rfl,rfl,rfl,trivial⟩ (List.Sublist.refl _) (fun _ h=>trivial) (fun i=>?_)
 have hle:=i.le
 have htl:=i.tl
 refine QG<|QG<|QB<|QA (QC rfl)<|QA (QU rfl rfl rfl)<|QA (QC rfl) ?_
 refine Qk (t:=8) rfl (fun hb8=>?_) (fun hb8=>?_)
 ·
  refine QR rfl rfl rfl<|QR rfl rfl rfl<|QR rfl rfl rfl<|QR rfl rfl rfl<|QA (Qi rfl rfl rfl)<|QF<|QD<|K8 rfl<|QN<|QD<|Qa<|QG<|QB<|QA (QC rfl)<|QA (Y9 rfl rfl (by omega) (by omega))<|QA (QC rfl)<|QA (Y9 rfl rfl (by omega) (by omega))<|QA (Qw rfl rfl (by omega))<|QA (BZ (i.m%10) (i.m%10+1) rfl rfl rfl J5 (.inr rfl) (.inr rfl) (by omega) (by show i.m%10+1≤10;omega)) ?_
  rw [OP (Nat.mod_lt _ (by decide))]
  refine QA (QC rfl)<|QA (XO rfl rfl (by simp;omega))<|QA (QE rfl)<|QF<|QD<|QB<|QA (QC rfl)<|QA (V3 rfl rfl (by omega) (by omega) (by omega))<|QA (QE rfl)<|QF<|Qm ?_
  exact Qo (OE.next i (Or.inl (by have:=of_decide_eq_true hb8;omega):0<i.m∨i.t.length<least)) (by show i.m / 10+(least - (i.t.length+1))<i.m+(least - i.t.length);rcases (Or.inl (by have:=of_decide_eq_true hb8;omega):0<i.m∨i.t.length<least) with g | g<;>omega) ⟨rfl,rfl,rfl,trivial⟩ (List.Sublist.refl _) (fun _ h=>trivial)
 ·
  refine QJ rfl rfl<|QA (QC rfl)<|QJ rfl rfl<|QA (Jo rfl J5)<|QJ rfl rfl<|QA (QC rfl)<|QJ rfl rfl<|QA (QU rfl rfl rfl)<|QA (Qh rfl rfl rfl)<|QF<|QD ?_
  refine QO rfl (fun hc=>?_) (fun hc=>?_)
  ·
   refine QN<|QD<|Qa<|QG<|QB<|QA (QC rfl)<|QA (Y9 rfl rfl (by omega) (by omega))<|QA (QC rfl)<|QA (Y9 rfl rfl (by omega) (by omega))<|QA (Qw rfl rfl (by omega))<|QA (BZ (i.m%10) (i.m%10+1) rfl rfl rfl J5 (.inr rfl) (.inr rfl) (by omega) (by show i.m%10+1≤10;omega)) ?_
   rw [OP (Nat.mod_lt _ (by decide))]
   refine QA (QC rfl)<|QA (XO rfl rfl (by simp;omega))<|QA (QE rfl)<|QF<|QD<|QB<|QA (QC rfl)<|QA (V3 rfl rfl (by omega) (by omega) (by omega))<|QA (QE rfl)<|QF<|Qm ?_
   exact Qo (OE.next i (Or.inr (by have:=of_decide_eq_true hc;omega):0<i.m∨i.t.length<least)) (by show i.m / 10+(least - (i.t.length+1))<i.m+(least - i.t.length);rcases (Or.inr (by have:=of_decide_eq_true hc;omega):0<i.m∨i.t.length<least) with g | g<;>omega) ⟨rfl,rfl,rfl,trivial⟩ (List.Sublist.refl _) (fun _ h=>trivial)
  ·
   refine Q6 ?_
   repeat (first | refine Qc ?_ | refine QX (by rfl) ?_)
   refine Qd<|QD<|QG<|QB<|QA (QC rfl)<|QA (QE rfl)<|QF<|QD<|QS ?_
   exact QQ () rfl (.tmp rfl .nil) (congrArg tx (by have h1:=of_decide_eq_false hb8;have h2:=of_decide_eq_false hc;have h0:i.m=0:=(by omega);rw [← i.h,h0];simp [hd,VP,show least - i.t.length=0 by omega,Lib.repeatL])) (fun _ _=>trivial)
end
section
open Go.RowKit Ig
section
variable {P:Program} {N:Nat} {m:Sl} {Y:World→Prop} {ty:TypeId}
theorem Pb (a:Addr):a.add 0=a:=by simp [Addr.add]
theorem O0 {T e:TypeId} {x:Operand} {hi:Option Operand} {vh:Option Value} {q:Option Addr} {n c sz:Nat} {g:Bool} (h:Nat) (hx:ev m x=some (.slice q n c)) (eh:FP m hi=some vh) (hh:vh=some (.int .i64 (h:Int))) (hT:H9 P T=some e) (hs:YJ P e=some (g,sz)) (hc:h≤c) :
  Qt P N m Y (.slice T x none hi none) ty (.slice q h c):=fun a w _ _ _ _ ha _=>by
 subst hh
 have e1:q.map (fun a=>a.add 0)=q:=by cases q<;>simp [Pb]
 have hrun:(Instr.slice T (.slice q n c) none (some (.int .i64 (h:Int))) none).run P w = .ok (.slice q h c) w:=by
  simp [Instr.slice,run_underlying (Q8 hT),Instr.sliceBounds,Instr.sliceBound,asIntOf,hc,YK hs,e1]
 simp [execOp,ha.ev hx,ha.FP eh,Instr.sliceAt,run_underlying (Q8 hT),hrun]
end
def JP (F:Gs) (r:Sr) (l:List Int):Prop:=JF F r.q r.n 1 (l.map Qz)∧l.length=r.n∧r.n≤r.cap
theorem JP.le {F F':Gs} {r:Sr} {l:List Int} (h:JP F r l) (k:Gs.le F F'):JP F' r l:=⟨h.1.le k,h.2⟩
theorem JF.take {F:Gs} {q:Option Addr} {n k:Nat} {l:List Int} (h:JF F q n 1 (l.map Qz)) (hl:l.length=n) (hk:k≤n):JF F q k 1 ((l.take k).map Qz):=by
 refine⟨by simp;omega,fun h0=>?_⟩
 obtain ⟨b,off,arr,T,e1,e2,e3⟩:=h.2 (by omega)
 refine⟨b,off,arr,T,e1,e2,fun j u hu=>e3 j u ?_⟩
 rw [List.map_take] at hu
 have hj:j<k:=by
  rcases Nat.lt_or_ge j k with g | g
  ·exact g
  ·rw [List.getElem?_eq_none (by simp;omega)] at hu;cases hu
 rw [List.getElem?_take_of_lt hj] at hu;exact hu
theorem AQ {l:List Int} {k:Nat} (hk:k<l.length) (h:Q2 l=Q2 (l.take (k+1))) (h0:l[k]=0):Q2 l=Q2 (l.take k):=by
 rw [h,List.take_succ_eq_append_getElem hk,h0,YQ]
theorem AP {l:List Int} {k:Nat} (hk:k<l.length) (h:Q2 l=Q2 (l.take (k+1))) (h0:l[k]≠0):Q2 l=l.take (k+1):=by
 rw [h,List.take_succ_eq_append_getElem hk,VH _ h0]
structure x1 (l:List Int) where
 k:Nat
 le:k≤l.length
 h:Q2 l=Q2 (l.take k)
theorem WR {w:World} {F:Gs} {r:Sr} {l:List Int} (hF:Fits F w) (hR:JP F r l) (hl:l.length≤1000000000):QT Tryz.prog 250 [r.v] w F (fun(_:Unit)=>.slice r.q (Q2 l).length r.cap) (fun _ F=>JP F ⟨r.q,(Q2 l).length,r.cap⟩ (Q2 l)):=by
 obtain ⟨q,n,c⟩:=r
 have hn:=hR.2.1
 have hcap:=hR.2.2
 dsimp only at hn hcap
 refine QT.intro (G:=fun F=>JP F ⟨q,n,c⟩ l) Tryz.func250 rfl (by rfl) rfl rfl hF (fun F' hF'=>hR.le hF')<|QG<|QB<|QA (QE rfl)<|QF<|QD<|QG<|Qa<|XS (ι:=x1 l) (fun i=>[(0,.slice q i.k c)]) (fun _=>[]) (fun _ F=>JP F ⟨q,n,c⟩ l) (fun i=>i.k) ⟨n,by omega,by rw [← hn,List.take_length]⟩ ⟨rfl,trivial⟩ (List.Sublist.refl _) (fun _ h=>h) (fun i=>?_)
 have hle:=i.le
 refine QG<|QG<|QB<|QA (QC rfl)<|QA (Ql rfl Qe)<|QA (QU rfl rfl rfl)<|QA (QC rfl) ?_
 refine Qk (t:=6) rfl (fun hb6=>?_) (fun hb6=>?_)
 ·
  have hk0:0<i.k:=by have:=of_decide_eq_true hb6;omega
  have hk1:i.k - 1<l.length:=by omega
  refine JK _ (fun w F hF h=>h.1.ptr (by dsimp only;omega)) (fun hq=>?_)
  obtain ⟨qb,qo,hq⟩:=hq
  dsimp only at hq
  subst hq
  refine QJ rfl rfl<|QA (QC rfl)<|QJ rfl rfl<|QA (QC rfl)<|QJ rfl rfl<|QA (Ql rfl Qe)<|QJ rfl rfl<|QA (Jx rfl rfl (by omega))<|QJ rfl rfl<|QA (Qy (i:=i.k - 1) rfl (congrArg (fun z:Int=>some (Value.int .i64 z)) (by omega)) Qe Qu (by omega))<|QJ rfl rfl<|QA (XW (n:=n) (sz:=1) (cs:=l.map Qz) (u:=.int .i64 l[i.k - 1]) rfl Qu (fun F h=>h.1) (by omega) (by simp [hk1,Qz]))<|QJ rfl rfl<|QA (QU rfl rfl rfl)<|QA (Qi rfl rfl rfl)<|QF<|QD ?_
  refine QO rfl (fun hc=>?_) (fun hc=>?_)
  ·
   refine QN<|QD<|Qa<|QB<|QA (QC rfl)<|QA (QC rfl)<|QA (Ql rfl Qe)<|QA (Jx rfl rfl (by omega))<|QA (O0 (i.k - 1) rfl rfl (congrArg (fun z:Int=>some (Value.int .i64 z)) (by omega)) Qe Qu (by omega))<|QA (QE rfl)<|QF<|Qm ?_
   exact Qo (⟨i.k - 1,by omega,AQ hk1 (by rw [show i.k - 1+1=i.k by omega];exact i.h) (by simpa using hc)⟩:x1 l) (by show i.k - 1<i.k;omega) ⟨rfl,trivial⟩ (List.Sublist.refl _) (fun _ h=>h)
  ·
   refine Q6 ?_
   repeat (first | refine Qc ?_ | refine QX (by rfl) ?_)
   refine Qd<|QD<|QG<|QB<|QA (QC rfl)<|QA (QE rfl)<|QF<|QD<|QS ?_
   exact QQ () rfl (.tmp rfl .nil) (congrArg (fun k:Nat=>Value.slice _ k c) (by have e:=AP hk1 (by rw [show i.k - 1+1=i.k by omega];exact i.h) (by simpa using hc);rw [show i.k - 1+1=i.k by omega] at e;rw [e];simp;omega)) (fun F h=>by have hz:(Q2 l).length≤l.length:=Xh l;exact⟨(by have:=h.1.take hn (show(Q2 l).length≤n by omega);rw [← Hj] at this;exact this),rfl,(by show(Q2 l).length≤c;omega)⟩)
 ·
  refine QR rfl rfl rfl<|QR rfl rfl rfl<|QR rfl rfl rfl<|QR rfl rfl rfl<|QR rfl rfl rfl<|QR rfl rfl rfl<|QR rfl rfl rfl<|QA (Qh rfl rfl rfl)<|QF<|QD<|Zw rfl<|Q6 ?_
  repeat (first | refine Qc ?_ | refine QX (by rfl) ?_)
  refine Qd<|QD<|QG<|QB<|QA (QC rfl)<|QA (QE rfl)<|QF<|QD<|QS ?_
  exact QQ () rfl (.tmp rfl .nil) (congrArg (fun k:Nat=>Value.slice _ k c) (by have h0:i.k=0:=(by have:=of_decide_eq_false hb6;omega);have e:=i.h;rw [h0] at e;simp [Pj] at e;rw [e,h0];rfl)) (fun F h=>by have hz:(Q2 l).length≤l.length:=Xh l;exact⟨(by have:=h.1.take hn (show(Q2 l).length≤n by omega);rw [← Hj] at this;exact this),rfl,(by show(Q2 l).length≤c;omega)⟩)
end
section
open Go.RowKit Ig
theorem Q4.fix {w0:World} {F0:Gs} {bs1 ob:List (Nat×Obj)} {G:Gs→Prop} {T:TypeId} {sz n:Nat} {v:Value} {cs:List Value} (hr:Q4 T sz v n cs ob) :
  ∃ r:Sr,v=r.v∧r.n=n∧n≤r.cap∧∀ w,St ⟨w0,F0,bs1++ob,G⟩ w→St ⟨w0,F0,bs1,fun F=>G F∧JF F r.q n sz cs⟩ w:=by
 cases hr with
 |nil=>exact⟨⟨Option.none,0,0⟩,rfl,rfl,Nat.le_refl _,fun w hw=>by
   have:=hw.Bn (G':=fun F=>G F∧JF F Option.none 0 sz []) (fun F h=>⟨h,JF.nil F Option.none sz⟩)
   simpa using this⟩
 |some h1 h2 h3 h4 =>
  rename_i b cap rest
  refine⟨⟨Option.some ⟨b,0,Option.none⟩,n,cap⟩,rfl,rfl,h3,fun w hw=>?_⟩
  have:=St.freeze (pre:=bs1) (post:=[]) (b:=b) hw
  rw [List.append_nil] at this
  refine this.Bn fun F h=>⟨h.1,h1,fun _=>⟨b,0,_,T,rfl,h.2,fun j u hu=>?_⟩⟩
  have hj:j<cs.length:=by rcases Nat.lt_or_ge j cs.length with g | g;exact g;rw [List.getElem?_eq_none g] at hu;cases hu
  rw [Nat.zero_add]
  simp only [List.getElem?_toArray]
  rw [List.getElem?_append,if_pos hj];exact hu
theorem ku {Q:Exit→Act→World→Prop} {e:Exit} {N:Nat} {m:Sl} {E E':Env} (h:∀ w,St E w→St E' w) (k:Fin Q e N m E'):Fin Q e N m E:=fun a w ha hw=>k a w ha (h w hw)
theorem M8 {w:World} {F:Gs} {r:Sr} {l:List Int} {i:Nat} (hF:Fits F w) (hR:JP F r l) (hi:i≤1000000000):QW Tryz.prog 275 [r.v,.int .i64 (i:Int)] w F (.int .i64 (l.getD i 0)):=by
 obtain ⟨q,n,c⟩:=r
 have hn:=hR.2.1
 dsimp only at hn
 refine QT.intro (G:=fun F=>JP F ⟨q,n,c⟩ l) Tryz.func275 rfl (by rfl) rfl rfl hF (fun F' hF'=>hR.le hF') ?_
 dsimp only [Sr.v]
 refine QG<|QB<|QA (QE rfl)<|QF<|QD<|QG<|QG<|QB<|QA (QC rfl)<|QA (QC rfl)<|QA (Ql rfl Qe)<|QA (QU rfl rfl rfl)<|QF<|QD ?_
 refine QO rfl (fun hc=>?_) (fun hc=>?_)
 ·
  have hk1:i<l.length:=by have:=of_decide_eq_true hc;omega
  refine Xl _ (fun w F hF h=>h.1.ptr (by dsimp only;omega)) (fun hq=>?_)
  obtain ⟨qb,qo,hq⟩:=hq
  dsimp only at hq
  subst hq
  refine QG<|QB<|QA (QC rfl)<|QA (QC rfl)<|QA (Qy (i:=i) rfl rfl Qe Qu (by omega))<|QA (XW (n:=n) (sz:=1) (cs:=l.map Qz) (u:=.int .i64 l[i]) rfl Qu (fun F h=>h.1) (by omega) (by simp [hk1,Qz]))<|QA (QE rfl)<|QF<|QD<|QS ?_
  exact QQ () rfl (.tmp rfl .nil) (congrArg (Value.int .i64) (by simp [hk1])) (fun _ _=>trivial)
 ·
  refine QN<|QD<|QG<|QB<|QA (QE rfl)<|QF<|QD<|QS ?_
  exact QQ () rfl (.tmp rfl .nil) (congrArg (Value.int .i64) (by have:=of_decide_eq_false hc;simp [show l.length≤i by omega])) (fun _ _=>trivial)
def B9:Int:=1000000000
structure vB (a b:List Int) where
 i:Nat
 out:List Int
 carry:Int
 v:Value
 ob:List (Nat×Obj)
 le:i≤max a.length b.length+1
 len:out.length=i
 dg:DG B9 out
 c0:0≤carry
 c1:carry≤1
 cz:max a.length b.length<i→carry=0
 h:dv B9 out+B9^i*carry=dv B9 (a.take i)+dv B9 (b.take i)
 hr:Q4 3 1 v out.length (out.map Qz) ob
theorem K1 (B:Int) (l:List Int) (n:Nat):dv B (l.take (n+1))=dv B (l.take n)+B^n*l.getD n 0:=by
 rcases Nat.lt_or_ge n l.length with h | h
 ·rw [Wg B l n h];simp [h]
 ·rw [List.take_of_length_le (by omega),List.take_of_length_le h];simp [h]
end
section
open Go.RowKit Ig
theorem MD {l:List Int} (h:DG B9 l) (i:Nat):0≤l.getD i 0∧l.getD i 0<1000000000:=h.getD (by decide) i
theorem RJ {l:List Int} {i:Nat} (h:l.length≤i):l.getD i 0=0:=by simp [h]
theorem kV {a b out:List Int} {i:Nat} {c s:Int} (hl:out.length=i) (h:dv B9 out+B9^i*c=dv B9 (a.take i)+dv B9 (b.take i)) (hs:s=a.getD i 0+b.getD i 0+c) :
  dv B9 (out++[s%B9])+B9^(i+1)*(s / B9)=dv B9 (a.take (i+1))+dv B9 (b.take (i+1)):=by
 rw [XV,hl,K1,K1,Int.pow_succ,Int.mul_assoc]
 have e:s%B9+B9*(s / B9)=s:=Int.emod_add_mul_ediv s B9
 have e2:B9^i*(s%B9)+B9^i*(B9*(s / B9))=B9^i*s:=by rw [← Int.mul_add,e]
 rw [Int.add_assoc,e2,hs,Int.mul_add,Int.mul_add]
 omega
abbrev D4 (P:Program) (f:FuncId) (args:List Value) (w:World) (F:Gs) (p:List Int→Prop):Prop:=QT P f args w F (fun(c:Sr×List Int)=>.slice c.1.q c.1.n c.1.cap) (fun c F=>JP F c.1 c.2∧DG B9 c.2∧p c.2)
theorem BY {w:World} {F:Gs} {ra rb:Sr} {a b:List Int} (hF:Fits F w) (hA:JP F ra a) (hB:JP F rb b) (da:DG B9 a) (db:DG B9 b) (la:a.length≤100000000) (lb:b.length≤100000000) :
  D4 Tryz.prog 237 [ra.v,rb.v] w F (fun l=>dv B9 l=dv B9 a+dv B9 b∧l.length≤max a.length b.length+1):=by
 have na:=hA.2.1
 have nb:=hB.2.1
 have h9:B9=1000000000:=rfl
 refine QT.intro (G:=fun F=>JP F ra a∧JP F rb b) Tryz.func237 rfl (by rfl) rfl rfl hF (fun F' hF'=>⟨hA.le hF',hB.le hF'⟩)<|QG<|QB<|QA (QE rfl)<|QF<|QD<|QG<|QB<|QA (QE rfl)<|QF<|QD<|QG<|QB<|QA (QE rfl)<|QF<|QD<|QG<|QG<|QB<|QA (QE rfl)<|QF<|QD<|Qa ?_
 refine XS (ι:=vB a b) (fun i=>[(0,ra.v),(1,rb.v),(5,i.v),(6,.int .i64 i.carry),(7,.int .i64 (i.i:Int))]) (fun i=>i.ob) (fun _ F=>JP F ra a∧JP F rb b) (fun i=>max a.length b.length+1 - i.i)
  ⟨0,[],0,.slice none 0 0,[],Nat.zero_le _,rfl,DG.nil _,by decide,by decide,fun _=>rfl,by simp,.nil⟩ ⟨rfl,rfl,rfl,rfl,rfl,trivial⟩ (List.nil_sublist _) (fun _ h=>h) (fun i=>?_)
 have hle:=i.le
 have hlen:=i.len
 have hc0:=i.c0
 have hc1:=i.c1
 refine QG ?_
 refine Vd 22 (.bool (decide ((i.i:Int)<ra.n)||decide ((i.i:Int)<rb.n)||decide (i.carry>0))) ?_ ?_
 ·
  refine QB<|QA (QC rfl)<|QA (QC rfl)<|QA (Ql rfl Qe)<|QA (QU rfl rfl rfl)<|QA (QC rfl) ?_
  refine Qk (t:=13) rfl (fun hb13=>?_) (fun hb13=>?_)
  ·
   refine QR rfl rfl rfl<|QR rfl rfl rfl<|QR rfl rfl rfl<|QR rfl rfl rfl<|QA (Qi rfl rfl rfl)<|QA (QC rfl)<|QR rfl rfl rfl<|QR rfl rfl rfl<|QA (Qi rfl rfl rfl)<|QF ?_
   exact Jp (.cons rfl (.cons rfl (.cons rfl (.cons rfl (.cons rfl (.cons rfl (.cons rfl (.cons rfl (.cons rfl (.cons rfl (.cons rfl (.cons rfl (.cons rfl (.cons rfl (.cons rfl .refl))))))))))))))) (congrArg (fun b=>some (Value.bool b)) (by rw [Bool.eq_iff_iff];simp_all;try omega)) (List.Sublist.refl _) (fun _ h=>h)
  ·
   refine QJ rfl rfl<|QA (QC rfl)<|QJ rfl rfl<|QA (QC rfl)<|QJ rfl rfl<|QA (Ql rfl Qe)<|QJ rfl rfl<|QA (QU rfl rfl rfl)<|QA (Qh rfl rfl rfl)<|QA (QC rfl) ?_
   refine Qk (t:=19) rfl (fun hb19=>?_) (fun hb19=>?_)
   ·
    refine QR rfl rfl rfl<|QR rfl rfl rfl<|QA (Qi rfl rfl rfl)<|QF ?_
    exact Jp (.cons rfl (.cons rfl (.cons rfl (.cons rfl (.cons rfl (.cons rfl (.cons rfl (.cons rfl (.cons rfl (.cons rfl (.cons rfl (.cons rfl (.cons rfl (.cons rfl (.cons rfl (.cons rfl .refl)))))))))))))))) (congrArg (fun b=>some (Value.bool b)) (by rw [Bool.eq_iff_iff];simp_all;try omega)) (List.Sublist.refl _) (fun _ h=>h)
   ·
    refine QJ rfl rfl<|QA (QC rfl)<|QJ rfl rfl<|QA (QU rfl rfl rfl)<|QA (Qh rfl rfl rfl)<|QF ?_
    exact Jp (.cons rfl (.cons rfl (.cons rfl (.cons rfl (.cons rfl (.cons rfl (.cons rfl (.cons rfl (.cons rfl (.cons rfl (.cons rfl (.cons rfl (.cons rfl (.cons rfl (.cons rfl (.cons rfl .refl)))))))))))))))) (congrArg (fun b=>some (Value.bool b)) (by rw [Bool.eq_iff_iff];simp_all;try omega)) (List.Sublist.refl _) (fun _ h=>h)
 ·
  refine QO rfl (fun hc=>?_) (fun hc=>?_)
  ·
   have hi:i.i≤max a.length b.length:=by
    rcases Nat.lt_or_ge (max a.length b.length) i.i with g | g
    ·have:=i.cz g
     simp at hc;omega
    ·exact g
   have b1:=MD da i.i
   have b2:=MD db i.i
   refine QN<|QD<|QG<|Qa<|QG<|QB<|QA (QC rfl)<|QA (QC rfl)<|QH rfl (fun w F hF ⟨hA,hB⟩=>M8 (r:=ra) (l:=a) hF hA (by omega)) (fun _=>QA (QC rfl)<|QA (QC rfl)<|QH rfl (fun w F hF ⟨⟨hA,hB⟩,_⟩=>M8 (r:=rb) (l:=b) hF hB (by omega)) (fun _=>QA (Qw rfl rfl (by omega))<|QA (QC rfl)<|QA (Qw rfl rfl (by omega))<|QA (QE rfl)<|QF<|QD<|QG<|QB<|QA (QC rfl)<|QA (QC rfl)<|QA (Y9 rfl rfl (by omega) (by omega))<|QV rfl (Q8 Qe) Qu Vi rfl rfl (fun b37=>?_)))
   refine Kr (bs1:=[]) (ob:=i.ob) (k:=1) (sz:=1) (news:=[.int .i64 ((a.getD i.i 0+b.getD i.i 0+i.carry)%1000000000)]) rfl rfl Qe Qu Vi rfl DF i.hr (Src.row (off:=0) (fun F h=>h.2) (fun j v hv=>by rw [Nat.zero_add];show([Value.int .i64 ((a.getD i.i 0+b.getD i.i 0+i.carry)%1000000000)].toArray)[j]?=some v;rw [List.getElem?_toArray];exact hv) rfl) (by omega) (by omega) (fun u hu=>by rw [List.mem_singleton.1 hu];rfl) (fun v' ob' hr'=>?_)
   refine QA (QE rfl)<|QF<|QD<|QB<|QA (QC rfl)<|QA (V3 rfl rfl (by omega) (by omega) (by omega))<|QA (QE rfl)<|QF<|Qm<|QD<|QB<|QA (QC rfl)<|QA (Qw rfl rfl (by omega))<|QA (QE rfl)<|QF ?_
   exact Qo (⟨i.i+1,i.out++[(a.getD i.i 0+b.getD i.i 0+i.carry)%B9],(a.getD i.i 0+b.getD i.i 0+i.carry) / B9,v',ob',by omega,by simp [hlen],i.dg.append (DG.cons (by rw [h9];omega) (by rw [h9];omega) (DG.nil _)),by rw [h9];omega,by rw [h9];omega,fun g=>by rw [RJ (l:=a) (by omega),RJ (l:=b) (by omega),h9];omega,kV hlen i.h rfl,by simpa [Qz,h9] using hr'⟩:vB a b) (by show max a.length b.length+1 - (i.i+1)<max a.length b.length+1 - i.i;omega) ⟨rfl,rfl,rfl,rfl,rfl,trivial⟩ (List.Sublist.refl _) (fun F h=>h.1.1.1)
  ·
   refine Q6 ?_
   repeat (first | refine Qc ?_ | refine QX (by rfl) ?_)
   refine Qd<|QD<|QG<|QB<|QA (QC rfl)<|QA (QE rfl)<|QF<|QD<|QS ?_
   obtain ⟨r,hv,hrn,hrc,hfix⟩:=Q4.fix (w0:=w) (F0:=F) (bs1:=[]) (G:=fun F=>JP F ra a∧JP F rb b) i.hr
   refine ku hfix ?_
   have hex:max a.length b.length≤i.i∧i.carry=0:=by simp at hc;omega
   exact QQ ((r,i.out):Sr×List Int) rfl (.tmp rfl .nil) hv.symm (fun F h=>⟨⟨by rw [hrn];exact h.2,hrn.symm,by show r.n≤r.cap;omega⟩,i.dg,by have e:=i.h;rw [hex.2,List.take_of_length_le (by omega),List.take_of_length_le (by omega)] at e;simpa using e,by show i.out.length≤_;omega⟩)
end
section
open Go.RowKit Ig
structure k8 (a b:List Int) where
 k:Nat
 le:k≤a.length
 h:a.drop k=b.drop k
theorem Lk {a b:List Int} {k:Nat} (ha:k<a.length) (hb:k<b.length) (h:a.drop (k+1)=b.drop (k+1)) (e:a[k]=b[k]):a.drop k=b.drop k:=by
 rw [List.drop_eq_getElem_cons ha,List.drop_eq_getElem_cons hb,h,e]
theorem WA {w:World} {F:Gs} {ra rb:Sr} {a b:List Int} (hF:Fits F w) (hA:JP F ra a) (hB:JP F rb b) (da:DG B9 a) (db:DG B9 b) (za:NZ a) (zb:NZ b) (la:a.length≤100000000) (lb:b.length≤100000000) :
  QW Tryz.prog 238 [ra.v,rb.v] w F (.int .i64 (ZU (dv B9 a) (dv B9 b))):=by
 have h91:(1:Int)<B9:=by decide
 have h90:(0:Int)<B9:=by decide
 obtain ⟨q,n,c⟩:=ra
 obtain ⟨q',n',c'⟩:=rb
 have na:=hA.2.1
 have nb:=hB.2.1
 dsimp only at na nb
 refine QT.intro (G:=fun F=>JP F ⟨q,n,c⟩ a∧JP F ⟨q',n',c'⟩ b) Tryz.func238 rfl (by rfl) rfl rfl hF (fun F' hF'=>⟨hA.le hF',hB.le hF'⟩) ?_
 dsimp only [Sr.v]
 refine QG<|QB<|QA (QE rfl)<|QF<|QD<|QG<|QG<|QB<|QA (QC rfl)<|QA (Ql rfl Qe)<|QA (QC rfl)<|QA (Ql rfl Qe)<|QA (QU rfl rfl rfl)<|QF<|QD ?_
 refine QO rfl (fun hc=>?_) (fun hc=>?_)
 ·
  refine QG<|QG<|QB<|QA (QC rfl)<|QA (Ql rfl Qe)<|QA (QC rfl)<|QA (Ql rfl Qe)<|QA (QU rfl rfl rfl)<|QF<|QD ?_
  refine QO rfl (fun hc=>?_) (fun hc2=>?_)
  ·
   refine QG<|QB<|QA (QE rfl)<|QF<|QD<|QS ?_
   exact QQ () rfl (.tmp rfl .nil) (congrArg (Value.int .i64) (Vu (Xb h91 da db zb (by simp at hc;omega)))) (fun _ _=>trivial)
  ·
   refine QN<|QD<|QG<|QB<|QA (QE rfl)<|QF<|QD<|QS ?_
   exact QQ () rfl (.tmp rfl .nil) (congrArg (Value.int .i64) (Gq (Xb h91 db da za (by simp at hc hc2;omega)))) (fun _ _=>trivial)
 ·
  refine QN<|QD<|QG<|QG<|QB<|QA (QC rfl)<|QA (Ql rfl Qe)<|QA (Jx rfl rfl (by omega))<|QA (QE rfl)<|QF<|QD ?_
  have hab:n=n':=by simp at hc;omega
  refine Qa<|XS (ι:=k8 a b) (fun i=>[(0,.slice q n c),(1,.slice q' n' c'),(5,.int .i64 ((i.k:Int) - 1))]) (fun _=>[]) (fun _ F=>JP F ⟨q,n,c⟩ a∧JP F ⟨q',n',c'⟩ b) (fun i=>i.k) ⟨n,by omega,by rw [List.drop_eq_nil_of_le (by omega),List.drop_eq_nil_of_le (by omega)]⟩ ⟨rfl,rfl,rfl,trivial⟩ (List.Sublist.refl _) (fun _ h=>h) (fun i=>?_)
  have hle:=i.le
  refine QG<|QG<|QB<|QA (QC rfl)<|QA (QU rfl rfl rfl)<|QF<|QD ?_
  refine QO rfl (fun hc=>?_) (fun hc=>?_)
  ·
   refine QN<|QD<|QG<|Qa<|QG<|QG ?_
   have hk0:0<i.k:=by have:=of_decide_eq_true hc;omega
   have hka:i.k - 1<a.length:=by omega
   have hkb:i.k - 1<b.length:=by omega
   refine Xl _ (fun w F hF h=>h.1.1.ptr (by dsimp only;omega)) (fun hq=>?_)
   obtain ⟨qb,qo,hq⟩:=hq
   dsimp only at hq
   subst hq
   refine Xl _ (fun w F hF h=>h.2.1.ptr (by dsimp only;omega)) (fun hq=>?_)
   obtain ⟨qb',qo',hq⟩:=hq
   dsimp only at hq
   subst hq
   refine JQ (List.Sublist.refl _) mixed (by kernel_rfl)<|QM (QC rfl)<|QM (QC rfl)<|QM (Qy (i:=i.k - 1) rfl (congrArg (fun z:Int=>some (Value.int .i64 z)) (by omega)) Qe Qu (by omega))<|QM (XW (n:=n) (sz:=1) (cs:=a.map Qz) (u:=.int .i64 a[i.k - 1]) rfl Qu (fun F h=>h.1.1) (by omega) (by simp [hka,Qz]))<|QM (QC rfl)<|QM (QC rfl)<|QM (Qy (i:=i.k - 1) rfl (congrArg (fun z:Int=>some (Value.int .i64 z)) (by omega)) Qe Qu (by omega))<|QM (XW (n:=n') (sz:=1) (cs:=b.map Qz) (u:=.int .i64 b[i.k - 1]) rfl Qu (fun F h=>h.2.1) (by omega) (by simp [hkb,Qz]))<|QM (QU rfl rfl rfl)<|Q3<|QD ?_
   refine QO rfl (fun hc=>?_) (fun hca=>?_)
   ·
    refine QG<|QB<|QA (QE rfl)<|QF<|QD<|QS ?_
    repeat (first | refine JN ?_ | refine JE ?_)
    exact QQ () rfl (.tmp rfl .nil) (congrArg (Value.int .i64) (Vu (Sf h90 da db (by omega) (i.k - 1) hka (by rw [show i.k - 1+1=i.k by omega];exact i.h) (of_decide_eq_true hc)))) (fun _ _=>trivial)
   ·
    refine QN<|QD<|QG<|JQ (List.Sublist.refl _) mixed (by kernel_rfl)<|QM (QC rfl)<|QM (QC rfl)<|QM (Qy (i:=i.k - 1) rfl (congrArg (fun z:Int=>some (Value.int .i64 z)) (by omega)) Qe Qu (by omega))<|QM (XW (n:=n) (sz:=1) (cs:=a.map Qz) (u:=.int .i64 a[i.k - 1]) rfl Qu (fun F h=>h.1.1) (by omega) (by simp [hka,Qz]))<|QM (QC rfl)<|QM (QC rfl)<|QM (Qy (i:=i.k - 1) rfl (congrArg (fun z:Int=>some (Value.int .i64 z)) (by omega)) Qe Qu (by omega))<|QM (XW (n:=n') (sz:=1) (cs:=b.map Qz) (u:=.int .i64 b[i.k - 1]) rfl Qu (fun F h=>h.2.1) (by omega) (by simp [hkb,Qz]))<|QM (QU rfl rfl rfl)<|Q3<|QD ?_
    refine QO rfl (fun hc=>?_) (fun hcb=>?_)
    ·
     refine QG<|QB<|QA (QE rfl)<|QF<|QD<|QS ?_
     repeat (first | refine JN ?_ | refine JE ?_)
     exact QQ () rfl (.tmp rfl .nil) (congrArg (Value.int .i64) (Gq (Sf h90 db da (by omega) (i.k - 1) hkb (by rw [show i.k - 1+1=i.k by omega];exact i.h.symm) (of_decide_eq_true hc)))) (fun _ _=>trivial)
    ·
     refine QN<|Qm<|QD<|QB<|QA (QC rfl)<|QA (Jx rfl rfl (by omega))<|QA (QE rfl)<|QF ?_
     exact Qo (⟨i.k - 1,by omega,Lk hka hkb (by rw [show i.k - 1+1=i.k by omega];exact i.h) (by simp at hca hcb;omega)⟩:k8 a b) (by show i.k - 1<i.k;omega) ⟨rfl,rfl,congrArg (fun z:Int=>some (Value.int .i64 z)) (by dsimp only;omega),trivial⟩ (List.Sublist.refl _) (fun _ h=>h)
  ·
   refine Q6 ?_
   repeat (first | refine Qc ?_ | refine QX (by rfl) ?_)
   refine Qd<|QD<|QG<|QB<|QA (QE rfl)<|QF<|QD<|QS ?_
   exact QQ () rfl (.tmp rfl .nil) (congrArg (Value.int .i64) (by have h0:i.k=0:=(by have:=of_decide_eq_false hc;omega);have e:=i.h;rw [h0] at e;simp at e;rw [e];exact MI _)) (fun _ _=>trivial)
end
section
open Go.RowKit Ig
theorem U9 {P:Program} {Q:Exit→Act→World→Prop} {c:Code} {N:Nat} {m:Sl} {E E':Env} (h:∀ w,St E w→St E' w) (k:J P c Q N m E'):J P c Q N m E:=fun a w ha hw=>k a w ha (h w hw)
theorem xX {a b out:List Int} {i:Nat} {c c' d:Int} (hl:out.length=i) (h:dv B9 out+dv B9 (b.take i)=dv B9 (a.take i)+B9^i*c) (hd:d=a.getD i 0 - b.getD i 0 - c+B9*c') :
  dv B9 (out++[d])+dv B9 (b.take (i+1))=dv B9 (a.take (i+1))+B9^(i+1)*c':=by
 rw [XV,hl,K1,K1,Int.pow_succ,Int.mul_assoc,hd,Int.mul_add,Int.mul_sub,Int.mul_sub]
 omega
structure ye (a b:List Int) where
 i:Nat
 out:List Int
 borrow:Int
 v:Value
 ob:List (Nat×Obj)
 le:i≤a.length
 len:out.length=i
 dg:DG B9 out
 c0:0≤borrow
 c1:borrow≤1
 h:dv B9 out+dv B9 (b.take i)=dv B9 (a.take i)+B9^i*borrow
 hr:Q4 3 1 v out.length (out.map Qz) ob
theorem qi {a b out:List Int} {c:Int} (da:DG B9 out) (hl:out.length=a.length) (hb:b.length≤a.length) (h:dv B9 out+dv B9 (b.take a.length)=dv B9 (a.take a.length)+B9^a.length*c) (h0:0≤c) (h1:c≤1) (hle:dv B9 b≤dv B9 a):dv B9 out=dv B9 a - dv B9 b:=by
 rw [List.take_length,List.take_of_length_le hb] at h
 have hlt:=Z4 (b:=B9) (by decide) da
 rw [hl] at hlt
 have hc:c=0∨c=1:=by omega
 rcases hc with rfl | rfl
 ·rw [Int.mul_zero] at h;omega
 ·rw [Int.mul_one] at h;omega
theorem BU {w:World} {F:Gs} {ra rb:Sr} {a b:List Int} (hF:Fits F w) (hA:JP F ra a) (hB:JP F rb b) (da:DG B9 a) (db:DG B9 b) (la:a.length≤100000000) (lb:b.length≤a.length) (hle:dv B9 b≤dv B9 a) :
  D4 Tryz.prog 239 [ra.v,rb.v] w F (fun l=>dv B9 l=dv B9 a - dv B9 b∧NZ l∧l.length≤a.length):=by
 obtain ⟨q,n,c⟩:=ra
 have na:=hA.2.1
 have nb:=hB.2.1
 dsimp only at na
 have h9:B9=1000000000:=rfl
 refine QT.intro (G:=fun F=>JP F ⟨q,n,c⟩ a∧JP F rb b) Tryz.func239 rfl (by rfl) rfl rfl hF (fun F' hF'=>⟨hA.le hF',hB.le hF'⟩) ?_
 dsimp only [Sr.v]
 refine QG<|QB<|QA (QE rfl)<|QF<|QD<|QG<|QB<|QA (QE rfl)<|QF<|QD<|QG<|QB<|QA (QE rfl)<|QF<|QD<|QG<|QG<|QB<|QA (QE rfl)<|QF<|QD<|Qa ?_
 refine XS (ι:=ye a b) (fun i=>[(0,.slice q n c),(1,.slice rb.q rb.n rb.cap),(5,i.v),(6,.int .i64 i.borrow),(7,.int .i64 (i.i:Int))]) (fun i=>i.ob) (fun _ F=>JP F ⟨q,n,c⟩ a∧JP F rb b) (fun i=>a.length - i.i)
  ⟨0,[],0,.slice none 0 0,[],Nat.zero_le _,rfl,DG.nil _,by decide,by decide,by simp,.nil⟩ ⟨rfl,rfl,rfl,rfl,rfl,trivial⟩ (List.nil_sublist _) (fun _ h=>h) (fun i=>?_)
 have hile:=i.le
 have hlen:=i.len
 have hc0:=i.c0
 have hc1:=i.c1
 refine QG<|QG<|QB<|QA (QC rfl)<|QA (QC rfl)<|QA (Ql rfl Qe)<|QA (QU rfl rfl rfl)<|QF<|QD ?_
 refine QO rfl (fun hc=>?_) (fun hc=>?_)
 ·
  have hi:i.i<n:=by have:=of_decide_eq_true hc;omega
  have hia:i.i<a.length:=by omega
  have b1:=MD da i.i
  have b2:=MD db i.i
  have e1:a[i.i]=a.getD i.i 0:=by simp [hia]
  refine Xl _ (fun w F hF h=>h.1.1.ptr (by dsimp only;omega)) (fun hq=>?_)
  obtain ⟨qb,qo,hq⟩:=hq
  dsimp only at hq
  subst hq
  refine QN<|QD<|QG<|Qa<|QG<|JQ (List.Sublist.refl _) mixed (by kernel_rfl)<|QM (QC rfl)<|QM (QC rfl)<|QM (Qy (i:=i.i) rfl rfl Qe Qu (by omega))<|QM (XW (n:=n) (sz:=1) (cs:=a.map Qz) (u:=.int .i64 (a.getD i.i 0)) rfl Qu (fun F h=>h.1.1) (by omega) (by simp [hia,Qz]))<|QM (QC rfl)<|QM (QC rfl)<|Qb rfl (fun w F hF ⟨hA,hB⟩=>M8 (r:=rb) (l:=b) hF hB (by omega)) (fun _=>QM (Jx rfl rfl (by omega))<|QM (QC rfl)<|QM (Jx rfl rfl (by omega))<|QM (QE rfl)<|Q3<|QD<|QG<|QB<|QA (QE rfl)<|QF<|QD<|QG ?_)
  refine QG<|QB<|QA (QC rfl)<|QA (QU rfl rfl rfl)<|QF<|QD ?_
  refine QO rfl (fun hs=>?_) (fun hs=>?_)
  ·
   refine QG<|QB<|QA (QC rfl)<|QA (Qw rfl rfl (by omega))<|QA (QE rfl)<|QF<|QD<|QB<|QA (QE rfl)<|QF<|QD<|QB<|QA (QC rfl)<|QA (QC rfl)<|QV rfl (Q8 Qe) Qu Vi rfl rfl (fun b31=>?_)
   refine Kr (bs1:=[]) (ob:=i.ob) (k:=1) (sz:=1) (news:=[.int .i64 ((a.getD i.i 0 - b.getD i.i 0 - i.borrow)+1000000000)]) rfl rfl Qe Qu Vi rfl DF i.hr (Src.row (off:=0) (fun F h=>h.2) (fun j v hv=>by rw [Nat.zero_add];show([Value.int .i64 ((a.getD i.i 0 - b.getD i.i 0 - i.borrow)+1000000000)].toArray)[j]?=some v;rw [List.getElem?_toArray];exact hv) rfl) (by omega) (by omega) (fun u hu=>by rw [List.mem_singleton.1 hu];rfl) (fun v' ob' hr'=>?_)
   refine QA (QE rfl)<|QF<|Qm<|QD<|QB<|QA (QC rfl)<|QA (Qw rfl rfl (by omega))<|QA (QE rfl)<|QF ?_
   exact Qo (⟨i.i+1,i.out++[((a.getD i.i 0 - b.getD i.i 0 - i.borrow)+1000000000)],1,v',ob',by omega,by simp [hlen],i.dg.append (DG.cons (by have:=of_decide_eq_true hs;omega) (by have:=of_decide_eq_true hs;rw [h9];omega) (DG.nil _)),by decide,by decide,xX hlen i.h (by rw [h9];omega),by simpa [Qz] using hr'⟩:ye a b) (by show a.length - (i.i+1)<a.length - i.i;omega) ⟨rfl,rfl,rfl,rfl,rfl,trivial⟩ (List.Sublist.refl _) (fun F h=>h.1.1)
  ·
   refine QN<|QD<|QB<|QA (QC rfl)<|QA (QC rfl)<|QV rfl (Q8 Qe) Qu Vi rfl rfl (fun b31=>?_)
   refine Kr (bs1:=[]) (ob:=i.ob) (k:=1) (sz:=1) (news:=[.int .i64 (a.getD i.i 0 - b.getD i.i 0 - i.borrow)]) rfl rfl Qe Qu Vi rfl DF i.hr (Src.row (off:=0) (fun F h=>h.2) (fun j v hv=>by rw [Nat.zero_add];show([Value.int .i64 (a.getD i.i 0 - b.getD i.i 0 - i.borrow)].toArray)[j]?=some v;rw [List.getElem?_toArray];exact hv) rfl) (by omega) (by omega) (fun u hu=>by rw [List.mem_singleton.1 hu];rfl) (fun v' ob' hr'=>?_)
   refine QA (QE rfl)<|QF<|Qm<|QD<|QB<|QA (QC rfl)<|QA (Qw rfl rfl (by omega))<|QA (QE rfl)<|QF ?_
   exact Qo (⟨i.i+1,i.out++[(a.getD i.i 0 - b.getD i.i 0 - i.borrow)],0,v',ob',by omega,by simp [hlen],i.dg.append (DG.cons (by have:=of_decide_eq_false hs;omega) (by have:=of_decide_eq_false hs;rw [h9];omega) (DG.nil _)),by decide,by decide,xX hlen i.h (by rw [h9];omega),by simpa [Qz] using hr'⟩:ye a b) (by show a.length - (i.i+1)<a.length - i.i;omega) ⟨rfl,rfl,rfl,rfl,rfl,trivial⟩ (List.Sublist.refl _) (fun F h=>h.1.1)
 ·
  refine Q6 ?_
  repeat (first | refine Qc ?_ | refine QX (by rfl) ?_)
  refine Qd<|QD<|QG ?_
  obtain ⟨r,hv,hrn,hrc,hfix⟩:=Q4.fix (w0:=w) (F0:=F) (bs1:=[]) (G:=fun F=>JP F ⟨q,n,c⟩ a∧JP F rb b) i.hr
  have hex:i.i=a.length:=by have:=of_decide_eq_false hc;omega
  have hlz:=Xh i.out
  refine U9 hfix ?_
  rw [hv]
  refine QB<|QA (QC rfl)<|QH rfl (fun w F hF ⟨⟨hA,hB⟩,hX⟩=>WR (r:=r) (l:=i.out) hF ⟨by rw [hrn];exact hX,hrn.symm,by omega⟩ (by omega)) (fun c34=>QA (QE rfl)<|QF<|QD<|QS ?_)
  exact QQ ((⟨r.q,(Q2 i.out).length,r.cap⟩,Q2 i.out):Sr×List Int) rfl (.tmp rfl .nil) rfl (fun F h=>⟨h.2,i.dg.Q2,by show dv B9 (Q2 i.out)=_;rw [J7];exact qi i.dg (by omega) lb (by have e:=i.h;rw [hex] at e;exact e) hc0 hc1 hle,Xf _,by show(Q2 i.out).length≤_;omega⟩)
end
section
open Go.RowKit Ig
theorem PD.one {l:List Value} {v:Value}:∀ {n:Nat},l[n]?=some v→PD l n [v]:=by
 induction l with
 |nil=>intro n h;simp at h
 |cons x l ih =>
  intro n h
  cases n with
  |zero=>simp at h;subst h;exact .here .nil
  |succ n=>exact .skip (ih (by simpa using h))
theorem VD.one {l:List Value} {v:Value}:∀ {n:Nat},n<l.length→VD l n [v] (l.set n v):=by
 induction l with
 |nil=>intro n h;simp at h
 |cons x l ih =>
  intro n h
  cases n with
  |zero=>exact .here .nil
  |succ n=>exact .skip (ih (by simpa using h))
def GR (la lb:List Int) (i j:Nat) (x:Int) (o:List Int) (c:Int):Prop :=
 o.length=la.length+lb.length∧DG B9 o∧(∀ p,i+lb.length≤p→Qf o p=0)∧(0≤c∧c<B9) ∧
  dv B9 o+B9^(i+j)*c=dv B9 (la.take i)*dv B9 lb+B9^i*(x*dv B9 (lb.take j))
theorem JG:(0:Int)<B9:=by decide
theorem II {x y o c:Int} (hx:0≤x∧x<B9) (hy:0≤y∧y<B9) (ho:0≤o∧o<B9) (hc:0≤c∧c<B9):0≤x*y∧x*y≤999999998000000001∧0≤o+x*y+c∧(o+x*y+c) / B9<B9:=by
 have h9:B9=1000000000:=rfl
 have h0:=Int.mul_nonneg hx.1 hy.1
 have h1:x*y≤(B9 - 1)*(B9 - 1):=Int.mul_le_mul (by omega) (by omega) hy.1 (by omega)
 generalize x*y=m at *
 have q:=h9 ▸ hx.2
 generalize hB:B9=B at *
 subst h9
 omega
theorem GR.step {la lb o:List Int} {i j:Nat} {x c s:Int} (h:GR la lb i j x o c) (hx:0≤x∧x<B9) (hb:DG B9 lb) (hj:j<lb.length) (hi:i<la.length) (hs:s=Qf o (i+j)+x*Qf lb j+c) :
  GR la lb i (j+1) x (o.set (i+j) (s%B9)) (s / B9):=by
 obtain ⟨h1,h2,h3,h4,h5⟩:=h
 obtain ⟨m0,m1,m2,m3⟩:=II hx (hb.Qf JG j) (h2.Qf JG (i+j)) h4
 rw [← hs] at m2 m3
 refine⟨by simpa using h1,h2.set _ (Int.emod_nonneg _ (by decide)) (Int.emod_lt_of_pos _ JG),?_,⟨Int.ediv_nonneg m2 (by decide),m3⟩,?_⟩
 ·intro p hp
  rw [Vs (by omega),if_neg (by omega)];exact h3 p hp
 ·rw [GL B9 (by omega),VU,← Nat.add_assoc,Int.pow_succ]
  have e0:s%B9+B9*(s / B9)=s:=Int.emod_add_mul_ediv s B9
  generalize s%B9=lo at *
  generalize s / B9=hi at *
  have e:B9^(i+j)*(lo+B9*hi)=B9^(i+j)*(Qf o (i+j)+x*Qf lb j+c):=by rw [e0,hs]
  rw [Int.pow_add] at *
  generalize B9^i=u at *
  generalize B9^j=v at *
  generalize B9=B at *
  grind
theorem GR.row {la lb o:List Int} {i:Nat} {x c:Int} (h:GR la lb i lb.length x o c) (hi:i<la.length) (hx:x=Qf la i) :
  GR la lb (i+1) 0 0 (o.set (i+lb.length) c) 0:=by
 obtain ⟨h1,h2,h3,h4,h5⟩:=h
 refine⟨by simpa using h1,h2.set _ h4.1 h4.2,?_,⟨Int.le_refl _,JG⟩,?_⟩
 ·intro p hp
  rw [Vs (by omega),if_neg (by omega)];exact h3 p (by omega)
 ·rw [GL B9 (by omega),h3 _ (Nat.le_refl _),VU,← hx]
  rw [List.take_length] at h5
  simp only [Int.mul_zero,Int.add_zero,Int.zero_mul,Int.sub_zero]
  rw [h5]
  generalize B9^i=u at *
  generalize B9=B at *
  grind
theorem GR.start (la lb:List Int):GR la lb 0 0 0 (List.replicate (la.length+lb.length) 0) 0:=by
 refine⟨by simp,DG.replicate JG _,?_,⟨Int.le_refl _,JG⟩,by rw [Nr];simp⟩
 intro p _;unfold Qf;split<;>simp
theorem GR.next {la lb o:List Int} {i:Nat} (h:GR la lb i 0 0 o 0) (x:Int):GR la lb i 0 x o 0:=by
 obtain ⟨h1,h2,h3,h4,h5⟩:=h
 exact⟨h1,h2,h3,h4,by simpa using h5⟩
theorem GR.stop {la lb o:List Int} {i:Nat} (h:GR la lb i 0 0 o 0) (hi:la.length≤i):dv B9 o=dv B9 la*dv B9 lb:=by
 have e:=h.2.2.2.2
 rw [List.take_of_length_le hi] at e
 simpa using e
end
section
open Go.RowKit Ig
theorem Du {o:List Int} {k:Nat} (h:k<o.length):(o.map Qz)[0+k*1]?=some (.int .i64 (Qf o k)):=by
 rw [ZR h];simp [h,Qz]
theorem JR {o:List Int} {k:Nat} (h:k<o.length):(o.map Qz)[k*1]?=some (.int .i64 (Qf o k)):=by
 rw [ZR h];simp [h,Qz]
theorem Gh {o:List Int} {k:Nat} (h:k<o.length) (x:Int):VD (o.map Qz) (0+k*1) [.int .i64 x] ((o.set k x).map Qz):=by
 have:=VD.one (l:=o.map Qz) (n:=0+k*1) (v:=.int .i64 x) (by simpa using h)
 simpa [List.map_set,Qz] using this
structure ka (a b:List Int) where
 i:Nat
 o:List Int
 le:i≤a.length
 h:GR a b i 0 0 o 0
structure kZ (a b:List Int) (i:Nat) where
 j:Nat
 o:List Int
 c:Int
 le:j≤b.length
 h:GR a b i j (Qf a i) o c
theorem WS {w:World} {F:Gs} {ra rb:Sr} {a b:List Int} (hF:Fits F w) (hA:JP F ra a) (hB:JP F rb b) (da:DG B9 a) (db:DG B9 b) (la:a.length≤100000000) (lb:b.length≤100000000) :
  D4 Tryz.prog 240 [ra.v,rb.v] w F (fun l=>dv B9 l=dv B9 a*dv B9 b∧NZ l∧l.length≤a.length+b.length):=by
 obtain ⟨q,n,c⟩:=ra
 obtain ⟨q',n',c'⟩:=rb
 have na:=hA.2.1
 have nb:=hB.2.1
 dsimp only at na nb
 have h9:B9=1000000000:=rfl
 refine QT.intro (G:=fun F=>JP F ⟨q,n,c⟩ a∧JP F ⟨q',n',c'⟩ b) Tryz.func240 rfl (by rfl) rfl rfl hF (fun F' hF'=>⟨hA.le hF',hB.le hF'⟩) ?_
 dsimp only [Sr.v]
 refine QG<|QB<|QA (QE rfl)<|QF<|QD<|QG<|QB<|QA (QC rfl)<|QA (Ql rfl Qe)<|QA (QC rfl)<|QA (Ql rfl Qe)<|QA (Qw rfl rfl (by omega))<|Sx (n:=n+n') (bytes:=8) rfl rfl Qe Qu Vi rfl DF (by omega) (by omega) (fun bk=>?_)
 rw [show Za [Value.int .i64 0] (n+n')=(List.replicate (a.length+b.length) (0:Int)).map Qz by rw [VG,na,nb];simp [Qz]]
 refine QA (QE rfl)<|QF<|QD<|QG<|QG<|QB<|QA (QE rfl)<|QF<|QD<|Qa ?_
 refine XS (ι:=ka a b) (fun i=>[(0,.slice q n c),(1,.slice q' n' c'),(5,.slice (some ⟨bk,0,none⟩) (n+n') (n+n')),(6,.int .i64 (i.i:Int))]) (fun i=>[(bk,.cells (i.o.map Qz).toArray 3 (0,0))]) (fun _ F=>JP F ⟨q,n,c⟩ a∧JP F ⟨q',n',c'⟩ b) (fun i=>a.length - i.i)
  ⟨0,_,Nat.zero_le _,GR.start a b⟩ ⟨rfl,rfl,rfl,rfl,trivial⟩ (List.Sublist.refl _) (fun _ h=>h) (fun i=>?_)
 have hile:=i.le
 refine QG<|QG<|QB<|QA (QC rfl)<|QA (QC rfl)<|QA (Ql rfl Qe)<|QA (QU rfl rfl rfl)<|QF<|QD ?_
 refine QO rfl (fun hc=>?_) (fun hc=>?_)
 ·
  have hi:i.i<n:=by have:=of_decide_eq_true hc;omega
  have hia:i.i<a.length:=by omega
  refine Xl _ (fun w F hF h=>h.1.1.ptr (by dsimp only;omega)) (fun hq=>?_)
  obtain ⟨qb,qo,hq⟩:=hq
  dsimp only at hq
  subst hq
  refine QN<|QD<|QG<|Qa<|QG<|QB<|QA (QE rfl)<|QF<|QD<|QG<|QG<|QB<|QA (QE rfl)<|QF<|QD<|Qa ?_
  refine XS (ι:=kZ a b i.i) (fun i2=>[(0,.slice (some ⟨qb,qo,none⟩) n c),(1,.slice q' n' c'),(5,.slice (some ⟨bk,0,none⟩) (n+n') (n+n')),(6,.int .i64 (i.i:Int)),(7,.int .i64 i2.c),(8,.int .i64 (i2.j:Int))]) (fun i2=>[(bk,.cells (i2.o.map Qz).toArray 3 (0,0))]) (fun _ F=>JP F ⟨some ⟨qb,qo,none⟩,n,c⟩ a∧JP F ⟨q',n',c'⟩ b) (fun i2=>b.length - i2.j)
   ⟨0,i.o,0,Nat.zero_le _,i.h.next _⟩ ⟨rfl,rfl,rfl,rfl,rfl,rfl,trivial⟩ (List.Sublist.refl _) (fun _ h=>h) (fun i2=>?_)
  have hjle:=i2.le
  have hol:i2.o.length=a.length+b.length:=i2.h.1
  have hcc:=i2.h.2.2.2.1
  refine QG<|QG<|QB<|QA (QC rfl)<|QA (QC rfl)<|QA (Ql rfl Qe)<|QA (QU rfl rfl rfl)<|QF<|QD ?_
  refine QO rfl (fun hc=>?_) (fun hc=>?_)
  ·
   have hj:i2.j<n':=by have:=of_decide_eq_true hc;omega
   have hjb:i2.j<b.length:=by omega
   have hko:i.i+i2.j<i2.o.length:=by omega
   have bx:=da.Qf JG i.i
   have by':=db.Qf JG i2.j
   have bo:=i2.h.2.1.Qf JG (i.i+i2.j)
   have bd:=II bx by' bo hcc
   have hst:=i2.h.step bx db hjb hia rfl
   refine Xl _ (fun w F hF h=>h.2.1.ptr (by dsimp only;omega)) (fun hq=>?_)
   obtain ⟨qb',qo',hq⟩:=hq
   dsimp only at hq
   subst hq
   refine QN<|QD<|QG<|Qa<|QG<|JQ (List.Sublist.refl _) mixed (by kernel_rfl)<|QM (QC rfl)<|QM (QC rfl)<|QM (QC rfl)<|QM (Qw rfl rfl (by omega))<|QM (Qy (i:=i.i+i2.j) rfl rfl Qe Qu (by omega))<|QM (YR (c:=i2.o.map Qz) (T':=3) rfl Qu .here (Du hko))<|QM (QC rfl)<|QM (QC rfl)<|QM (Qy (i:=i.i) rfl rfl Qe Qu (by omega))<|QM (XW (n:=n) (sz:=1) (cs:=a.map Qz) rfl Qu (fun F h=>h.1.1) (by omega) (JR hia))<|QM (QC rfl)<|QM (QC rfl)<|QM (Qy (i:=i2.j) rfl rfl Qe Qu (by omega))<|QM (XW (n:=n') (sz:=1) (cs:=b.map Qz) rfl Qu (fun F h=>h.2.1) (by omega) (JR hjb))<|QM (WB rfl rfl (by omega))<|QM (Qw rfl rfl (by omega))<|QM (QC rfl)<|QM (Qw rfl rfl (by omega))<|QM (QE rfl) ?_
   refine Q3<|QD<|QG<|QB<|QA (QC rfl)<|QA (QC rfl)<|QA (QC rfl)<|QA (Qw rfl rfl (by omega))<|QA (QC rfl)<|QA (Y9 rfl rfl (by omega) (by omega))<|QA (Qy (i:=i.i+i2.j) rfl rfl Qe Qu (by omega))<|QP (vs:=[_]) rfl rfl rfl Qu rfl .here (Gh hko _) ⟨rfl,trivial⟩<|QF<|QD<|QB<|QA (QC rfl)<|QA (V3 rfl rfl (by omega) (by omega) (by omega))<|QA (QE rfl)<|QF<|Qm<|QD<|QB<|QA (QC rfl)<|QA (Qw rfl rfl (by omega))<|QA (QE rfl) ?_
   refine QF ?_
   exact Qo (⟨i2.j+1,i2.o.set (i.i+i2.j) _,_,by omega,hst⟩:kZ a b i.i) (by show b.length - (i2.j+1)<b.length - i2.j;omega) ⟨rfl,rfl,rfl,rfl,rfl,rfl,trivial⟩ (List.Sublist.refl _) (fun _ h=>h)
  ·
   have hjn:i2.j=b.length:=by have:=of_decide_eq_false hc;omega
   have hko2:i.i+n'<i2.o.length:=by omega
   have hrow:GR a b (i.i+1) 0 0 (i2.o.set (i.i+n') i2.c) 0:=by
    have e:=i2.h
    rw [hjn] at e
    have:=e.row hia rfl
    rwa [nb] at this
   have hz:Qf i2.o (i.i+n')=0:=i2.h.2.2.1 _ (by omega)
   refine Q6 ?_
   repeat (first | refine Qc ?_ | refine QX (by rfl) ?_)
   refine Qd<|QD<|QB<|QA (QC rfl)<|QA (QC rfl)<|QA (QC rfl)<|QA (Ql rfl Qe)<|QA (Qw rfl rfl (by omega))<|QA (QC rfl)<|QA (QC rfl)<|QA (QC rfl)<|QA (Ql rfl Qe)<|QA (Qw rfl rfl (by omega))<|QA (Qy (i:=i.i+n') rfl rfl Qe Qu (by omega))<|QA (YR (c:=i2.o.map Qz) (T':=3) rfl Qu .here (Du hko2))<|QA (QC rfl)<|QA (Qw rfl rfl (by omega))<|QA (Qy (i:=i.i+n') rfl rfl Qe Qu (by omega))<|QP (vs:=[_]) rfl rfl rfl Qu rfl .here (Gh hko2 _) ⟨rfl,trivial⟩<|QF<|Qm<|QD<|QB<|QA (QC rfl)<|QA (Qw rfl rfl (by omega)) ?_
   refine QA (QE rfl)<|QF ?_
   exact Qo (⟨i.i+1,i2.o.set (i.i+n') i2.c,by omega,hrow⟩:ka a b) (by show a.length - (i.i+1)<a.length - i.i;omega) ⟨rfl,rfl,rfl,rfl,trivial⟩ (by rw [hz,Int.zero_add];exact List.Sublist.refl _) (fun _ h=>h)
 ·
  refine Q6 ?_
  repeat (first | refine Qc ?_ | refine QX (by rfl) ?_)
  refine Qd<|QD<|QG ?_
  have hex:a.length≤i.i:=by have:=of_decide_eq_false hc;omega
  have hol:i.o.length=a.length+b.length:=i.h.1
  have hr:Q4 3 1 (.slice (some ⟨bk,0,none⟩) (n+n') (n+n')) (n+n') (i.o.map Qz) [(bk,.cells (i.o.map Qz).toArray 3 (0,0))]:=by
   have:=Q4.some (T:=3) (sz:=1) (b:=bk) (n:=n+n') (cap:=n+n') (l:=i.o.map Qz) (rest:=[]) (by simp;omega) (by simp;omega) (Nat.le_refl _) (Nat.le_trans (show n+n'≤200000000 by omega) (by decide))
   simpa using this
  obtain ⟨r,hv,hrn,hrc,hfix⟩:=Q4.fix (w0:=w) (F0:=F) (bs1:=[]) (G:=fun F=>JP F ⟨q,n,c⟩ a∧JP F ⟨q',n',c'⟩ b) hr
  have hlz:=Xh i.o
  refine U9 hfix ?_
  rw [hv]
  refine QB<|QA (QC rfl)<|QH rfl (fun w F hF ⟨⟨hA,hB⟩,hX⟩=>WR (r:=r) (l:=i.o) hF ⟨by rw [hrn];exact hX,by rw [hrn];omega,by omega⟩ (by omega)) (fun c71=>QA (QE rfl)<|QF<|QD<|QS ?_)
  exact QQ ((⟨r.q,(Q2 i.o).length,r.cap⟩,Q2 i.o):Sr×List Int) rfl (.tmp rfl .nil) rfl (fun F h=>⟨h.2,i.h.2.1.Q2,by show dv B9 (Q2 i.o)=_;rw [J7];exact i.h.stop hex,Xf _,by show(Q2 i.o).length≤_;omega⟩)
end
section
open Go.RowKit Ig
structure k6 (a:List Int) (d:Int) where
 k:Nat
 o:List Int
 r:Int
 le:k≤a.length
 len:o.length=a.length
 dg:DG B9 o
 r0:0≤r
 r1:r<d
 h:dv B9 (a.drop k)=d*dv B9 (o.drop k)+r
theorem set_drop {o:List Int} {p:Nat} (h:p<o.length) (v:Int):(o.set p v).drop p=v::o.drop (p+1):=by
 rw [List.drop_eq_getElem_cons (by simpa using h)]
 congr 1
 ·simp
 ·rw [List.drop_set_of_lt (by omega)]
theorem j1 {r d x:Int} (r0:0≤r) (r1:r<d) (hd:d<B9) (hx:0≤x∧x<B9):0≤r*B9+x∧0≤(r*B9+x) / d∧(r*B9+x) / d<B9∧0≤(r*B9+x)%d∧(r*B9+x)%d<d:=by
 have h0:0≤r*B9:=Int.mul_nonneg r0 (by decide)
 refine⟨by omega,Int.ediv_nonneg (by omega) (by omega),Int.ediv_lt_of_lt_mul (by omega) ?_,Int.emod_nonneg _ (by omega),Int.emod_lt_of_pos _ (by omega)⟩
 have h1:(r+1)*B9≤d*B9:=Int.mul_le_mul_of_nonneg_right (by omega) (by decide)
 rw [Int.add_mul,Int.one_mul] at h1
 rw [Int.mul_comm B9 d]
 omega
theorem yN {a o:List Int} {d r s:Int} {p:Nat} (hp:p<a.length) (ho:p<o.length) (h:dv B9 (a.drop (p+1))=d*dv B9 (o.drop (p+1))+r) (hs:s=r*B9+Qf a p) :
  dv B9 (a.drop p)=d*dv B9 ((o.set p (s / d)).drop p)+s%d:=by
 rw [set_drop ho,List.drop_eq_getElem_cons hp,← ZR hp]
 simp only [dv]
 rw [h]
 have e:s%d+d*(s / d)=s:=Int.emod_add_mul_ediv s d
 generalize s / d=u at *
 generalize s%d=v at *
 generalize B9=B at *
 grind
end
section
open Go.RowKit Ig
theorem EF {w:World} {F:Gs} {ra:Sr} {a:List Int} {d:Int} (hF:Fits F w) (hA:JP F ra a) (da:DG B9 a) (la:a.length≤100000000) (d0:0<d) (d1:d<B9) :
  QT Tryz.prog 249 [ra.v,.int .i64 d] w F (fun(c:(Sr×List Int)×Int)=>.tuple [.slice c.1.1.q c.1.1.n c.1.1.cap,.int .i64 c.2].toArray) (fun c F=>JP F c.1.1 c.1.2∧DG B9 c.1.2∧NZ c.1.2∧0≤c.2∧c.2<d∧dv B9 a=d*dv B9 c.1.2+c.2∧c.1.2.length≤a.length):=by
 obtain ⟨q,n,c⟩:=ra
 have na:=hA.2.1
 dsimp only at na
 have h9:B9=1000000000:=rfl
 refine QT.intro (G:=fun F=>JP F ⟨q,n,c⟩ a) Tryz.func249 rfl (by rfl) rfl rfl hF (fun F' hF'=>hA.le hF') ?_
 dsimp only [Sr.v]
 refine QG<|QB<|QA (QE rfl)<|QA (QE rfl)<|QF<|QD<|QG<|QB<|QA (QC rfl)<|QA (Ql rfl Qe)<|Sx (n:=n) (bytes:=8) rfl rfl Qe Qu Vi rfl DF (by omega) (by omega) (fun bk=>?_)
 rw [show Za [Value.int .i64 0] n=(List.replicate a.length (0:Int)).map Qz by rw [VG,na];simp [Qz]]
 refine QA (QE rfl)<|QF<|QD<|QG<|QB<|QA (QE rfl)<|QF<|QD<|QG<|QG<|QB<|QA (QC rfl)<|QA (Ql rfl Qe)<|QA (Jx rfl rfl (by omega))<|QA (QE rfl)<|QF<|QD<|Qa ?_
 refine XS (ι:=k6 a d) (fun i=>[(0,.slice q n c),(1,.int .i64 d),(6,.slice (some ⟨bk,0,none⟩) n n),(7,.int .i64 i.r),(8,.int .i64 ((i.k:Int) - 1))]) (fun i=>[(bk,.cells (i.o.map Qz).toArray 3 (0,0))]) (fun _ F=>JP F ⟨q,n,c⟩ a) (fun i=>i.k)
  ⟨n,List.replicate a.length 0,0,by omega,by simp,DG.replicate JG _,Int.le_refl _,d0,by rw [List.drop_eq_nil_of_le (by omega),List.drop_eq_nil_of_le (by simp;omega)];simp [dv]⟩ ⟨rfl,rfl,rfl,rfl,rfl,trivial⟩ (List.Sublist.refl _) (fun _ h=>h) (fun i=>?_)
 have hile:=i.le
 have hol:=i.len
 have hr0:=i.r0
 have hr1:=i.r1
 refine QG<|QG<|QB<|QA (QC rfl)<|QA (QU rfl rfl rfl)<|QF<|QD ?_
 refine QO rfl (fun hc=>?_) (fun hc=>?_)
 ·
  have hk0:0<i.k:=by have:=of_decide_eq_true hc;omega
  have hka:i.k - 1<a.length:=by omega
  have hko:i.k - 1<i.o.length:=by omega
  have bx:=da.Qf JG (i.k - 1)
  have bd:=j1 hr0 hr1 d1 bx
  rw [h9] at bd
  have hst:=yN (d:=d) (r:=i.r) (s:=i.r*1000000000+Qf a (i.k - 1)) hka hko (by rw [show i.k - 1+1=i.k by omega];exact i.h) rfl
  refine Xl _ (fun w F hF h=>h.1.ptr (by dsimp only;omega)) (fun hq=>?_)
  obtain ⟨qb,qo,hq⟩:=hq
  dsimp only at hq
  subst hq
  refine QN<|QD<|QG<|Qa<|QG<|QB<|QA (QC rfl)<|QA (WB rfl rfl (by omega))<|QA (QC rfl)<|QA (QC rfl)<|QA (Qy (i:=i.k - 1) rfl (congrArg (fun z:Int=>some (Value.int .i64 z)) (by omega)) Qe Qu (by omega))<|QA (XW (n:=n) (sz:=1) (cs:=a.map Qz) rfl Qu (fun F h=>h.1) (by omega) (JR hka))<|QA (Qw rfl rfl (by omega))<|QA (QE rfl)<|QF<|QD<|QG<|QB<|QA (QC rfl)<|QA (QC rfl)<|QA (QC rfl)<|QA (QC rfl)<|QA (V3 rfl rfl (by omega) (by omega) (by omega))<|QA (Qy (i:=i.k - 1) rfl (congrArg (fun z:Int=>some (Value.int .i64 z)) (by omega)) Qe Qu (by omega))<|QP (vs:=[_]) rfl rfl rfl Qu rfl .here (Gh hko _) ⟨rfl,trivial⟩ ?_
  refine QF<|QD<|QB<|QA (QC rfl)<|QA (QC rfl)<|QA (Y9 rfl rfl (by omega) (by omega))<|QA (QE rfl)<|QF<|Qm<|QD<|QB<|QA (QC rfl)<|QA (Jx rfl rfl (by omega))<|QA (QE rfl)<|QF ?_
  exact Qo (⟨i.k - 1,i.o.set (i.k - 1) ((i.r*1000000000+Qf a (i.k - 1)) / d),(i.r*1000000000+Qf a (i.k - 1))%d,by omega,by simpa using hol,i.dg.set _ bd.2.1 bd.2.2.1,bd.2.2.2.1,bd.2.2.2.2,hst⟩:k6 a d) (by show i.k - 1<i.k;omega) ⟨rfl,rfl,rfl,rfl,congrArg (fun z:Int=>some (Value.int .i64 z)) (by dsimp only;omega),trivial⟩ (List.Sublist.refl _) (fun _ h=>h)
 ·
  refine Q6 ?_
  repeat (first | refine Qc ?_ | refine QX (by rfl) ?_)
  refine Qd<|QD<|QG ?_
  have hex:i.k=0:=by have:=of_decide_eq_false hc;omega
  have hr:Q4 3 1 (.slice (some ⟨bk,0,none⟩) n n) n (i.o.map Qz) [(bk,.cells (i.o.map Qz).toArray 3 (0,0))]:=by
   have:=Q4.some (T:=3) (sz:=1) (b:=bk) (n:=n) (cap:=n) (l:=i.o.map Qz) (rest:=[]) (by simp;omega) (by simp;omega) (Nat.le_refl _) (Nat.le_trans (show n≤200000000 by omega) (by decide))
   simpa using this
  obtain ⟨r,hv,hrn,hrc,hfix⟩:=Q4.fix (w0:=w) (F0:=F) (bs1:=[]) (G:=fun F=>JP F ⟨q,n,c⟩ a) hr
  have hlz:=Xh i.o
  have hfin:=i.h
  rw [hex,List.drop_zero,List.drop_zero] at hfin
  refine U9 hfix ?_
  rw [hv]
  refine QB<|QA (QC rfl)<|QH rfl (fun w F hF ⟨hA,hX⟩=>WR (r:=r) (l:=i.o) hF ⟨by rw [hrn];exact hX,by rw [hrn];omega,by omega⟩ (by omega)) (fun c37=>QA (QC rfl)<|QA (QE rfl)<|QA (QE rfl)<|QF<|QD<|QS ?_)
  exact JH (((⟨r.q,(Q2 i.o).length,r.cap⟩,Q2 i.o),i.r):(Sr×List Int)×Int) rfl (.tmp rfl (.tmp rfl .nil)) rfl (fun F h=>⟨h.2,i.dg.Q2,Xf _,hr0,hr1,by show _=d*dv B9 (Q2 i.o)+i.r;rw [J7];exact hfin,by show(Q2 i.o).length≤_;omega⟩)
end
section
open Go.RowKit Ig
theorem yG {u v:List Int} {n:Nat} {t r:Int} (h:Vc B9 u v n) (t0:0≤t) (e:t*Qf v (n+1)+r=Qf u (n+2)*B9+Qf u (n+1)) (hc:r*B9+Qf u n<t*Qf v n):dv B9 u<t*dv B9 v:=by
 obtain ⟨a1,a2,a3⟩:=Z2 (b:=B9) (by decide) h.hu h.lu
 obtain ⟨b1,b2,b3⟩:=KD (b:=B9) (by decide) h.hv h.lv
 rw [a1,b1]
 refine Na b2 a3 (pow_pos JG n) t0 ?_
 rw [← e]
 generalize B9=B at *
 grind
theorem kM {u v:List Int} {n:Nat} {t:Int} (h:Vc B9 u v n) (ht:B9≤t):dv B9 u<t*dv B9 v:=by
 have h0:=Qx (b:=B9) (by decide) h.hv
 have h1:B9*dv B9 v≤t*dv B9 v:=Int.mul_le_mul_of_nonneg_right ht h0
 have:=h.lt
 omega
theorem jt {u v:List Int} {n:Nat} {t:Int} (h:Vc B9 u v n) (t0:0≤t) (ht:Qf u (n+2)*B9+Qf u (n+1)<(t+1)*Qf v (n+1)):dv B9 u<(t+1)*dv B9 v:=by
 obtain ⟨a1,a2,a3⟩:=Z2 (b:=B9) (by decide) h.hu h.lu
 obtain ⟨b1,b2,b3⟩:=KD (b:=B9) (by decide) h.hv h.lv
 rw [a1,b1]
 refine Na b2 a3 (pow_pos JG n) (by omega) ?_
 have d1:=h.hu.Qf JG n
 have d2:=h.hv.Qf JG n
 have e1:0≤(t+1)*Qf v n:=Int.mul_nonneg (by omega) d2.1
 have e2:(Qf u (n+2)*B9+Qf u (n+1)+1)*B9≤(t+1)*Qf v (n+1)*B9:=Int.mul_le_mul_of_nonneg_right (by omega) (by decide)
 generalize B9=B at *
 generalize Qf u (n+2)=u0 at *
 generalize Qf u (n+1)=u1 at *
 generalize Qf u n=u2 at *
 generalize Qf v (n+1)=v1 at *
 generalize Qf v n=v2 at *
 grind
theorem xw {u v:List Int} {n:Nat} {t r:Int} (h:Vc B9 u v n) (t0:0≤t) (t1:t<B9) (e:t*Qf v (n+1)+r=Qf u (n+2)*B9+Qf u (n+1)) (hc:t*Qf v n≤r*B9+Qf u n):(t - 1)*dv B9 v≤dv B9 u:=by
 obtain ⟨a1,a2,a3⟩:=Z2 (b:=B9) (by decide) h.hu h.lu
 obtain ⟨b1,b2,b3⟩:=KD (b:=B9) (by decide) h.hv h.lv
 rw [a1,b1]
 have d2:=h.hv.Qf JG n
 have d3:1*B9≤Qf v (n+1)*B9:=Int.mul_le_mul_of_nonneg_right (by have:=h.nz;omega) (by decide)
 refine UI (pow_pos JG n) b3 a2 t0 ?_ (by omega) b2
 rw [← e]
 generalize B9=B at *
 grind
end
section
open Go.RowKit Ig
theorem Zl {o:List Int} {rest:List Value} {k:Nat} (h:k<o.length):(o.map Qz++rest)[0+k*1]?=some (.int .i64 (Qf o k)):=by
 rw [List.getElem?_append,if_pos (by simp;omega)];exact Du h
theorem qy {l vs l' rest:List Value} {n:Nat} (h:VD l n vs l'):VD (l++rest) n vs (l'++rest):=by
 induction h with
 |nil=>exact .nil
 |here h ih=>exact .here ih
 |skip h ih=>exact .skip ih
theorem VO {o:List Int} {rest:List Value} {k:Nat} (h:k<o.length) (x:Int):VD (o.map Qz++rest) (0+k*1) [.int .i64 x] ((o.set k x).map Qz++rest):=qy (Gh h x)
def Io (u v:List Int) (t:Int):Prop:=0≤t∧t<B9∧(t - 1)*dv B9 v≤dv B9 u∧dv B9 u<(t+1)*dv B9 v
structure gL (u v:List Int) (m:Nat) where
 t:Int
 r:Int
 t0:0≤t
 r0:0≤r
 r1:r<B9
 t2:t≤1000000000000000000
 e:t*Qf v (m+1)+r=Qf u (m+2)*B9+Qf u (m+1)
 h:dv B9 u<(t+1)*dv B9 v
theorem Nt {U:List Int} {j m k:Nat} (h:k<m):Qf ((U.drop j).take m) k=Qf U (j+k):=by
 by_cases g:j+k<U.length
 ·rw [ZR (by simp;omega),ZR g];simp
 ·rw [H4 (by simp;omega),H4 (by omega)]
theorem IT {u v:List Int} {n:Nat} {t r:Int} (h:Vc B9 u v n) (t0:0≤t) (e:t*Qf v (n+1)+r=Qf u (n+2)*B9+Qf u (n+1)) (hr:B9≤r) (hu:dv B9 u<(t+1)*dv B9 v):Io u v t:=by
 have ht:=h.top (by decide)
 have d0:=h.hu.Qf JG n
 have d1:=h.hu.Qf JG (n+1)
 have d2:=h.hv.Qf JG n
 have hn:=h.nz
 have e1:Qf u (n+2)*B9≤Qf v (n+1)*B9:=Int.mul_le_mul_of_nonneg_right ht (by decide)
 have t1:t<B9:=by
  refine Int.not_le.1 fun hc=>?_
  have e2:B9*Qf v (n+1)≤t*Qf v (n+1):=Int.mul_le_mul_of_nonneg_right hc (by omega)
  rw [Int.mul_comm] at e2
  omega
 refine⟨t0,t1,xw h t0 t1 e ?_,hu⟩
 have e3:t*Qf v n≤B9*B9:=Int.mul_le_mul (by omega) (by omega) d2.1 (by decide)
 have e4:B9*B9≤r*B9:=Int.mul_le_mul_of_nonneg_right hr (by decide)
 omega
theorem RL {u v:List Int} {t:Int} (hu:DG B9 u) (t0:0≤t) (h:dv B9 u<t*dv B9 v):0≤t - 1:=by
 have:=Qx (b:=B9) (by decide) hu
 rcases Int.lt_or_le 0 t with g | g
 ·omega
 ·have e:t=0:=by omega
  subst e;rw [Int.zero_mul] at h;omega
theorem Ou {rest:List Value} {w0:World} {F0:Gs} {G:Gs→Prop} {bs:List (Nat×Obj)} {bu nu cu j m:Nat} {rv:Sr} {U v:List Int} (hU:U.length=nu) (hj:j+m+3≤nu) (hn:nu≤1000000000) (hG:∀ F,G F→JP F rv v) (hS:Vc B9 ((U.drop j).take (m+3)) v m) :
  XA Tryz.prog 251 [.slice (some ⟨bu,0,none⟩) nu cu,rv.v,.int .i64 (j:Int)] ⟨w0,F0,(bu,.cells (U.map Qz++rest).toArray 3 (0,0))::bs,G⟩ (fun t:Int=>.int .i64 t) (fun t=>⟨w0,F0,(bu,.cells (U.map Qz++rest).toArray 3 (0,0))::bs,fun F=>G F∧Io ((U.drop j).take (m+3)) v t⟩):=by
 obtain ⟨q,n,c⟩:=rv
 have hlv:=hS.lv
 have h9:B9=1000000000:=rfl
 have u2:Qf ((U.drop j).take (m+3)) (m+2)=Qf U (j+(m+2)):=Nt (by omega)
 have u1:Qf ((U.drop j).take (m+3)) (m+1)=Qf U (j+(m+1)):=Nt (by omega)
 have u0:Qf ((U.drop j).take (m+3)) m=Qf U (j+m):=Nt (by omega)
 have b2:=hS.hu.Qf JG (m+2)
 have b1:=hS.hu.Qf JG (m+1)
 have b0:=hS.hu.Qf JG m
 have c1:=hS.hv.Qf JG (m+1)
 have c0:=hS.hv.Qf JG m
 have nz:=hS.nz
 refine XA.intro Tryz.func251 rfl rfl rfl rfl ?_
 dsimp only [Sr.v]
 refine Xl _ (fun w F hF h=>(hG F h).2.1) (fun hnv=>?_)
 dsimp only at hnv
 obtain rfl:n=m+2:=by omega
 refine Xl _ (fun w F hF h=>(hG F h).1.ptr (by dsimp only;omega)) (fun hq=>?_)
 obtain ⟨qb,qo,hq⟩:=hq
 dsimp only at hq
 subst hq
 refine QG<|QB<|QA (QE rfl)<|QF<|QD<|QG<|QB<|QA (QC rfl)<|QA (Ql rfl Qe)<|QA (QE rfl)<|QF<|QD<|QG<|JQ (List.Sublist.refl _) mixed (by kernel_rfl)<|QM (QC rfl)<|QM (QC rfl)<|QM (QC rfl)<|QM (Qw rfl rfl (by omega))<|QM (Qy (i:=j+(m+2)) rfl (congrArg (fun z:Int=>some (Value.int .i64 z)) (by omega)) Qe Qu (by omega))<|QM (YR (v:=.int .i64 (Qf ((U.drop j).take (m+3)) (m+2))) (c:=U.map Qz++rest) (T':=3) rfl Qu .here (by rw [u2];exact Zl (by omega)))<|QM (WB rfl rfl (by omega))<|QM (QC rfl)<|QM (QC rfl)<|QM (QC rfl)<|QM (Qw rfl rfl (by omega)) ?_
 refine QM (Jx rfl rfl (by omega))<|QM (Qy (i:=j+(m+1)) rfl (congrArg (fun z:Int=>some (Value.int .i64 z)) (by omega)) Qe Qu (by omega))<|QM (YR (v:=.int .i64 (Qf ((U.drop j).take (m+3)) (m+1))) (c:=U.map Qz++rest) (T':=3) rfl Qu .here (by rw [u1];exact Zl (by omega)))<|QM (Qw rfl rfl (by omega))<|QM (QE rfl)<|Q3<|QD<|QG<|JQ (List.Sublist.refl _) mixed (by kernel_rfl)<|QM (QC rfl)<|QM (QC rfl)<|QM (QC rfl)<|QM (Jx rfl rfl (by omega))<|QM (Qy (i:=m+1) rfl (congrArg (fun z:Int=>some (Value.int .i64 z)) (by omega)) Qe Qu (by omega))<|QM (XW (n:=m+2) (sz:=1) (cs:=v.map Qz) rfl Qu (fun F h=>(hG F h).1) (by omega) (JR (show m+1<v.length by omega)))<|QM (V3 rfl rfl (by omega) (by omega) (by omega))<|QM (QC rfl)<|QM (QC rfl)<|QM (QC rfl)<|QM (Jx rfl rfl (by omega))<|QM (Qy (i:=m+1) rfl (congrArg (fun z:Int=>some (Value.int .i64 z)) (by omega)) Qe Qu (by omega))<|QM (XW (n:=m+2) (sz:=1) (cs:=v.map Qz) rfl Qu (fun F h=>(hG F h).1) (by omega) (JR (show m+1<v.length by omega)))<|QM (Y9 rfl rfl (by omega) (by omega))<|QM (QE rfl)<|QM (QE rfl) ?_
 refine Q3<|QD<|QG<|Qa ?_
 refine XS (ι:=gL ((U.drop j).take (m+3)) v m) (fun i=>[(0,.slice (some ⟨bu,0,none⟩) nu cu),(1,.slice (some ⟨qb,qo,none⟩) (m+2) c),(2,.int .i64 (j:Int)),(7,.int .i64 ((m+2:Nat):Int)),(9,.int .i64 i.t),(10,.int .i64 i.r)]) (fun _=>(bu,.cells (U.map Qz++rest).toArray 3 (0,0))::bs) (fun _=>G) (fun i=>i.t.toNat)
  ⟨(Qf ((U.drop j).take (m+3)) (m+2)*1000000000+Qf ((U.drop j).take (m+3)) (m+1)) / Qf v (m+1),(Qf ((U.drop j).take (m+3)) (m+2)*1000000000+Qf ((U.drop j).take (m+3)) (m+1))%Qf v (m+1),Int.ediv_nonneg (by omega) (by omega),Int.emod_nonneg _ (by omega),Int.lt_trans (Int.emod_lt_of_pos _ nz) c1.2,Int.le_trans (Int.ediv_le_self (a:=(Qf ((U.drop j).take (m+3)) (m+2)*1000000000+Qf ((U.drop j).take (m+3)) (m+1))) _ (by omega)) (by omega),by rw [Int.mul_comm,Int.add_comm];exact Int.emod_add_mul_ediv _ _,jt hS (Int.ediv_nonneg (by omega) (by omega)) (Int.lt_ediv_add_one_mul_self _ nz)⟩ ⟨rfl,rfl,rfl,rfl,rfl,rfl,trivial⟩ (List.Sublist.refl _) (fun _ h=>h) (fun i=>?_)
 have t0:=i.t0
 have r0:=i.r0
 have r1:=i.r1
 have t2:=i.t2
 refine QG<|QG<|JQ (List.Sublist.refl _) mixed (by kernel_rfl)<|QM (QC rfl)<|QM (QU rfl rfl rfl)<|QM (QC rfl) ?_
 refine DM (t:=44) rfl (fun hb44=>?_) (fun hb44=>?_)
 ·
  refine Jt rfl rfl rfl<|Jt rfl rfl rfl<|Jt rfl rfl rfl<|Jt rfl rfl rfl<|Jt rfl rfl rfl<|Jt rfl rfl rfl<|Jt rfl rfl rfl<|Jt rfl rfl rfl<|Jt rfl rfl rfl<|Jt rfl rfl rfl<|Jt rfl rfl rfl<|Jt rfl rfl rfl<|Jt rfl rfl rfl<|Jt rfl rfl rfl<|Jt rfl rfl rfl<|Jt rfl rfl rfl<|Jt rfl rfl rfl<|Jt rfl rfl rfl<|QM (Qi rfl rfl rfl)<|Q3<|QD<|K8 rfl ?_
  have hl:dv B9 ((U.drop j).take (m+3))<i.t*dv B9 v:=kM hS (by have:=of_decide_eq_true hb44;omega)
  refine QN<|QD<|Qa<|QG<|QB<|QA (QC rfl)<|QA (Jx rfl rfl (by omega))<|QA (QE rfl)<|QF<|QD<|QG<|QB<|QA (QC rfl)<|QA (QC rfl)<|QA (QC rfl)<|QA (Jx rfl rfl (by omega))<|QA (Qy (i:=m+1) rfl (congrArg (fun z:Int=>some (Value.int .i64 z)) (by omega)) Qe Qu (by omega))<|QA (XW (n:=m+2) (sz:=1) (cs:=v.map Qz) rfl Qu (fun F h=>(hG F h).1) (by omega) (JR (show m+1<v.length by omega)))<|QA (Qw rfl rfl (by omega))<|QA (QE rfl)<|QF<|QD<|QG<|QB<|QA (QC rfl) ?_
  refine QA (QU rfl rfl rfl)<|QF<|QD ?_
  refine QO rfl (fun hc=>?_) (fun hc=>?_)
  ·
   refine QG<|QB<|QA (QC rfl)<|QA (QE rfl)<|QF<|QD<|QS ?_
   repeat (first | refine JN ?_ | refine JE ?_)
   exact Yz (i.t - 1) rfl (.tmp rfl .nil) rfl (fun w h=>h.imp (List.Sublist.refl _) (fun F h=>⟨h,IT (r:=i.r+Qf v (m+1)) hS (RL hS.hu t0 hl) (by rw [Int.sub_mul,Int.one_mul,← i.e];omega) (by have:=of_decide_eq_true hc;omega) (by rw [Int.sub_add_cancel];exact hl)⟩))
  ·
   refine QN<|Qm ?_
   exact Qo (⟨i.t - 1,i.r+Qf v (m+1),(RL hS.hu t0 hl),by omega,by have:=of_decide_eq_false hc;omega,by omega,(by rw [Int.sub_mul,Int.one_mul,← i.e];omega),(by rw [Int.sub_add_cancel];exact hl)⟩:gL ((U.drop j).take (m+3)) v m) (by show(i.t - 1).toNat<i.t.toNat;have:=(RL hS.hu t0 hl);omega) ⟨rfl,rfl,rfl,rfl,rfl,rfl,trivial⟩ (List.Sublist.refl _) (fun _ h=>h)
 ·
  have tb:i.t<B9:=by have:=of_decide_eq_false hb44;omega
  have p0:0≤i.t*Qf v m:=Int.mul_nonneg t0 c0.1
  have p1:i.t*Qf v m≤1000000000*1000000000:=Int.mul_le_mul (by omega) (by omega) c0.1 (by decide)
  refine XE rfl rfl<|QM (QC rfl)<|XE rfl rfl<|QM (QC rfl)<|XE rfl rfl<|QM (QC rfl)<|XE rfl rfl<|QM (Jx rfl rfl (by omega))<|XE rfl rfl<|QM (Qy (i:=m) rfl (congrArg (fun z:Int=>some (Value.int .i64 z)) (by omega)) Qe Qu (by omega))<|XE rfl rfl<|QM (XW (n:=m+2) (sz:=1) (cs:=v.map Qz) rfl Qu (fun F h=>(hG F h).1) (by omega) (JR (show m<v.length by omega)))<|XE rfl rfl<|QM (WB rfl rfl (by omega))<|XE rfl rfl<|QM (QC rfl)<|XE rfl rfl<|QM (WB rfl rfl (by omega))<|XE rfl rfl<|QM (QC rfl)<|XE rfl rfl<|QM (QC rfl)<|XE rfl rfl<|QM (QC rfl)<|XE rfl rfl ?_
  refine QM (Qw rfl rfl (by omega))<|XE rfl rfl<|QM (Jx rfl rfl (by omega))<|XE rfl rfl<|QM (Qy (i:=j+m) rfl (congrArg (fun z:Int=>some (Value.int .i64 z)) (by omega)) Qe Qu (by omega))<|XE rfl rfl<|QM (YR (v:=.int .i64 (Qf ((U.drop j).take (m+3)) (m))) (c:=U.map Qz++rest) (T':=3) rfl Qu .here (by rw [u0];exact Zl (by omega)))<|XE rfl rfl<|QM (Qw rfl rfl (by omega))<|XE rfl rfl<|QM (QU rfl rfl rfl)<|QM (Qh rfl rfl rfl)<|Q3<|QD ?_
  refine QO rfl (fun hc=>?_) (fun hc=>?_)
  ·
   have hl:dv B9 ((U.drop j).take (m+3))<i.t*dv B9 v:=yG hS t0 i.e (by have:=of_decide_eq_true hc;rw [h9];omega)
   refine QN<|QD<|Qa<|QG<|QB<|QA (QC rfl)<|QA (Jx rfl rfl (by omega))<|QA (QE rfl)<|QF<|QD<|QG<|QB<|QA (QC rfl)<|QA (QC rfl)<|QA (QC rfl)<|QA (Jx rfl rfl (by omega))<|QA (Qy (i:=m+1) rfl (congrArg (fun z:Int=>some (Value.int .i64 z)) (by omega)) Qe Qu (by omega))<|QA (XW (n:=m+2) (sz:=1) (cs:=v.map Qz) rfl Qu (fun F h=>(hG F h).1) (by omega) (JR (show m+1<v.length by omega)))<|QA (Qw rfl rfl (by omega))<|QA (QE rfl)<|QF<|QD<|QG<|QB<|QA (QC rfl) ?_
   refine QA (QU rfl rfl rfl)<|QF<|QD ?_
   refine QO rfl (fun hc=>?_) (fun hc=>?_)
   ·
    refine QG<|QB<|QA (QC rfl)<|QA (QE rfl)<|QF<|QD<|QS ?_
    repeat (first | refine JN ?_ | refine JE ?_)
    exact Yz (i.t - 1) rfl (.tmp rfl .nil) rfl (fun w h=>h.imp (List.Sublist.refl _) (fun F h=>⟨h,IT (r:=i.r+Qf v (m+1)) hS (RL hS.hu t0 hl) (by rw [Int.sub_mul,Int.one_mul,← i.e];omega) (by have:=of_decide_eq_true hc;omega) (by rw [Int.sub_add_cancel];exact hl)⟩))
   ·
    refine QN<|Qm ?_
    exact Qo (⟨i.t - 1,i.r+Qf v (m+1),(RL hS.hu t0 hl),by omega,by have:=of_decide_eq_false hc;omega,by omega,(by rw [Int.sub_mul,Int.one_mul,← i.e];omega),(by rw [Int.sub_add_cancel];exact hl)⟩:gL ((U.drop j).take (m+3)) v m) (by show(i.t - 1).toNat<i.t.toNat;have:=(RL hS.hu t0 hl);omega) ⟨rfl,rfl,rfl,rfl,rfl,rfl,trivial⟩ (List.Sublist.refl _) (fun _ h=>h)
  ·
   refine Q6 ?_
   repeat (first | refine Qc ?_ | refine QX (by rfl) ?_)
   refine Qd<|QD<|QG<|QB<|QA (QC rfl)<|QA (QE rfl)<|QF<|QD<|QS ?_
   exact Yz (i.t) rfl (.tmp rfl .nil) rfl (fun w h=>h.imp (List.Sublist.refl _) (fun F h=>⟨h,⟨t0,tb,xw hS t0 tb i.e (by have:=of_decide_eq_false hc;rw [h9];omega),i.h⟩⟩))
end
end Go.Proofs.YtknegjaeoffnbaaGreatDoor
namespace Ig
structure Pc (b:Int) (U v:List Int) (j:Nat) (t:Int) (i:Nat) (U':List Int) (br:Int):Prop where
 len:U'.length=U.length
 dg:DG b U'
 lo:U'.take j=U.take j
 hi:U'.drop (j+i)=U.drop (j+i)
 vr:0≤br
 vK:br≤b
 h:dv b U'+b^j*(t*dv b (v.take i))=dv b U+b^(j+i)*br
theorem Pc.start {b:Int} (hb:0≤b) {U v:List Int} (hU:DG b U) (j:Nat) (t:Int):Pc b U v j t 0 U 0 :=
 ⟨rfl,hU,rfl,rfl,Int.le_refl _,hb,by simp⟩
theorem C8 {l:List Int} {p k:Nat}:Qf (l.drop p) k=Qf l (p+k):=by
 by_cases g:p+k<l.length
 ·rw [ZR (by simp;omega),ZR g];simp
 ·rw [H4 (by simp;omega),H4 (by omega)]
theorem ZY {l m:List Int} {p q:Nat} (h:l.drop p=m.drop p) (hq:p≤q):Qf l q=Qf m q:=by
 have:=congrArg (fun x=>Qf x (q - p)) h
 simp only [C8] at this
 rw [show p+(q - p)=q by omega] at this;exact this
theorem qj {b t x br:Int} (hb:1<b) (ht:0≤t∧t<b) (hx:0≤x∧x<b) (h:0≤br∧br≤b):0≤t*x∧t*x≤(b - 1)*(b - 1)∧0≤(t*x+br) / b∧(t*x+br) / b<b:=by
 have h0:=Int.mul_nonneg ht.1 hx.1
 have h1:t*x≤(b - 1)*(b - 1):=Int.mul_le_mul (by omega) (by omega) hx.1 (by omega)
 refine⟨h0,h1,Int.ediv_nonneg (by omega) (by omega),Int.ediv_lt_of_lt_mul (by omega) ?_⟩
 have e:(b - 1)*(b - 1)=b*b - 2*b+1:=by grind
 omega
theorem Pc.step {b:Int} {U v U':List Int} {j i:Nat} {t br x br':Int} (h:Pc b U v j t i U' br) (hj:j+i<U.length)
  (hx:0≤x∧x<b) (hbr:br'≤b∧0≤br') (e:x - b*br'=Qf U (j+i) - (t*Qf v i+br)):Pc b U v j t (i+1) (U'.set (j+i) x) br':=by
 obtain ⟨h1,h2,h3,h4,h5,h6,h7⟩:=h
 have hd:Qf U' (j+i)=Qf U (j+i):=ZY h4 (Nat.le_refl _)
 refine⟨by simpa using h1,h2.set _ hx.1 hx.2,?_,?_,hbr.2,hbr.1,?_⟩
 ·rw [List.take_set_of_le (by omega)];exact h3
 ·rw [List.drop_set_of_lt (by omega),← Nat.add_assoc,← List.drop_drop,h4,List.drop_drop]
 ·rw [GL b (by omega),hd,VU,← Nat.add_assoc,Int.pow_succ]
  have e':b^(j+i)*(x - b*br')=b^(j+i)*(Qf U (j+i) - (t*Qf v i+br)):=by rw [e]
  rw [Int.pow_add] at *
  generalize b^i=p at *
  generalize b^j=q at *
  grind
structure Sn (b:Int) (U v:List Int) (j n:Nat) (t:Int) (U':List Int) (top:Int):Prop where
 len:U'.length=U.length
 dg:DG b (U'.set (j+n) 0)
 lo:U'.take j=U.take j
 hi:U'.drop (j+n+1)=U.drop (j+n+1)
 tp:Qf U' (j+n)=top
 h:dv b U'=dv b U - b^j*(t*dv b v)
theorem Pc.stop {b:Int} (hb:1<b) {U v U':List Int} {j n:Nat} {t br:Int} (h:Pc b U v j t n U' br) (hn:v.length=n) (hj:j+n<U.length):Sn b U v j n t (U'.set (j+n) (Qf U (j+n) - br)) (Qf U (j+n) - br):=by
 obtain ⟨h1,h2,h3,h4,h5,h6,h7⟩:=h
 have hd:Qf U' (j+n)=Qf U (j+n):=ZY h4 (Nat.le_refl _)
 refine⟨by simpa using h1,?_,?_,?_,?_,?_⟩
 ·rw [List.set_set];exact h2.set _ (Int.le_refl _) (by omega)
 ·rw [List.take_set_of_le (by omega)];exact h3
 ·rw [List.drop_set_of_lt (by omega),← List.drop_drop,h4,List.drop_drop]
 ·rw [Vs (by omega),if_pos rfl]
 ·rw [GL b (by omega),hd]
  rw [List.take_of_length_le (by omega)] at h7
  generalize b^(j+n)=p at *
  generalize b^j=q at *
  grind
theorem ZF (b:Int) (l:List Int) (j:Nat):dv b l=dv b (l.take j)+b^j*dv b (l.drop j):=by
 by_cases h:j≤l.length
 ·exact KV b l j h
 ·rw [List.take_of_length_le (by omega),List.drop_of_length_le (by omega)];simp
theorem Sn.part {b:Int} (hb:0<b) {U v U':List Int} {j n:Nat} {t top:Int} (h:Sn b U v j n t U' top):dv b (U'.drop j)=dv b (U.drop j) - t*dv b v:=by
 have e:=h.h
 rw [ZF b U' j,ZF b U j,h.lo] at e
 have hp:=pow_pos hb j
 have e2:b^j*dv b (U'.drop j)=b^j*(dv b (U.drop j) - t*dv b v):=by
  rw [Int.mul_sub];generalize b^j*dv b (U'.drop j)=x at *;generalize b^j*dv b (U.drop j)=y at *;omega
 exact Int.eq_of_mul_eq_mul_left (by omega) e2
theorem D9 {l:List Int} {j n:Nat} (h:j+n<l.length):l.drop j=(l.drop j).take n++Qf l (j+n)::l.drop (j+n+1):=by
 have e:(l.drop j).drop n=Qf l (j+n)::l.drop (j+n+1):=by
  rw [List.drop_drop,J8 h]
 rw [← e,List.take_append_drop]
theorem LY {b:Int} (hb:1<b) {U:List Int} {k n:Nat} (hU:DG b U) (h:dv b (U.drop k)<b^n):dv b (U.drop (k+n))=0:=by
 have e:=ZF b (U.drop k) n
 rw [List.drop_drop] at e
 have h1:=Qx (b:=b) (by omega) ((hU.drop k).take n)
 have h2:=Qx (b:=b) (by omega) (hU.drop (k+n))
 have hp:=pow_pos (b:=b) (by omega) n
 rcases Int.lt_or_le 0 (dv b (U.drop (k+n))) with g | g
 ·have:b^n*1≤b^n*dv b (U.drop (k+n)):=Int.mul_le_mul_of_nonneg_left (by omega) (by omega)
  rw [Int.mul_one] at this;omega
 ·omega
theorem Sn.sign {b:Int} (hb:1<b) {U v U':List Int} {j n:Nat} {t top:Int} (h:Sn b U v j n t U' top) (hz:dv b (U.drop (j+n+1))=0) (hj:j+n<U.length) :
  ∃ lo,0≤lo∧lo<b^n∧dv b (U'.drop j)=lo+b^n*top:=by
 have hlen:=h.len
 have hw:=D9 (l:=U') (j:=j) (n:=n) (by omega)
 refine⟨dv b ((U'.drop j).take n),?_,?_,?_⟩
 ·have:DG b ((U'.drop j).take n):=by
   have:=((h.dg.drop j).take n)
   rw [List.drop_set,if_neg (by omega),Nat.add_sub_cancel_left,List.take_set_of_le (Nat.le_refl _)] at this;exact this
  exact Qx (by omega) this
 ·have:DG b ((U'.drop j).take n):=by
   have:=((h.dg.drop j).take n)
   rw [List.drop_set,if_neg (by omega),Nat.add_sub_cancel_left,List.take_set_of_le (Nat.le_refl _)] at this;exact this
  have h2:=Z4 (by omega:0<b) this
  rw [show((U'.drop j).take n).length=n by simp;omega] at h2;exact h2
 ·have e:=congrArg (dv b) hw
  rw [ZQ,YT,h.hi,hz,h.tp,show((U'.drop j).take n).length=n by simp;omega] at e
  simpa using e
theorem Sn.yJ {b:Int} (hb:1<b) {U v U':List Int} {j n:Nat} {t top:Int} (h:Sn b U v j n t U' top) (hj:j+n<U.length) (h0:0≤top) (ht:top<b)
  (g:dv b (U.drop j)<(t+1)*dv b v):DG b U'∧dv b (U'.drop j)<dv b v∧dv b U'=dv b U - b^j*(t*dv b v):=by
 have hp:=h.part (by omega)
 refine⟨?_,?_,h.h⟩
 ·have e:U'=(U'.set (j+n) 0).set (j+n) top:=by
   rw [List.set_set]
   have:=h.tp
   rw [ZR (by rw [h.len];exact hj)] at this
   rw [← this,List.set_getElem_self]
  rw [e];exact h.dg.set _ h0 ht
 ·rw [hp];rw [Int.add_mul,Int.one_mul] at g;omega
structure DQ (b:Int) (U v:List Int) (j n i:Nat) (U':List Int) (c:Int):Prop where
 len:U'.length=U.length
 dg:DG b (U'.set (j+n) 0)
 lo:U'.take j=U.take j
 hi:U'.drop (j+i)=U.drop (j+i)
 c0:0≤c
 c1:c≤1
 h:dv b U'+b^(j+i)*c=dv b U+b^j*dv b (v.take i)
theorem DQ.start {b:Int} {U v:List Int} {j n:Nat} (hU:DG b (U.set (j+n) 0)):DQ b U v j n 0 U 0 :=
 ⟨rfl,hU,rfl,rfl,Int.le_refl _,by omega,by simp⟩
theorem DQ.step {b:Int} {U v U':List Int} {j n i:Nat} {c x c':Int} (h:DQ b U v j n i U' c) (hi:i<n) (hj:j+n<U.length)
  (hx:0≤x∧x<b) (hc:0≤c'∧c'≤1) (e:x+b*c'=Qf U (j+i)+Qf v i+c):DQ b U v j n (i+1) (U'.set (j+i) x) c':=by
 obtain ⟨h1,h2,h3,h4,h5,h6,h7⟩:=h
 have hd:Qf U' (j+i)=Qf U (j+i):=ZY h4 (Nat.le_refl _)
 refine⟨by simpa using h1,?_,?_,?_,hc.1,hc.2,?_⟩
 ·rw [List.set_comm _ _ (by omega)];exact h2.set _ hx.1 hx.2
 ·rw [List.take_set_of_le (by omega)];exact h3
 ·rw [List.drop_set_of_lt (by omega),← Nat.add_assoc,← List.drop_drop,h4,List.drop_drop]
 ·rw [GL b (by omega),hd,VU,← Nat.add_assoc,Int.pow_succ]
  have e':b^(j+i)*(x+b*c')=b^(j+i)*(Qf U (j+i)+Qf v i+c):=by rw [e]
  rw [Int.pow_add] at *
  generalize b^i=p at *
  generalize b^j=q at *
  grind
theorem DQ.Qf {b:Int} (hb:1<b) {U v U':List Int} {j n i:Nat} {c:Int} (h:DQ b U v j n i U' c) (hi:i<n):0≤Qf U' (j+i)∧Qf U' (j+i)<b:=by
 have:=h.dg.Qf (by omega) (j+i)
 by_cases g:j+n<U'.length
 ·rw [Vs g,if_neg (by omega)] at this;exact this
 ·rw [List.set_eq_of_length_le (by omega)] at this;exact this
theorem DQ.yJ {b:Int} (hb:1<b) {U v U1 U':List Int} {j n:Nat} {t top c:Int} (h:DQ b U1 v j n n U' c) (hs:Sn b U v j n t U1 top) (hU:DG b U) (hv:DG b v) (hn:v.length=n) (hz:dv b (U.drop (j+n+1))=0) (hj:j+n<U.length) (h0:top<0)
  (g:(t - 1)*dv b v≤dv b (U.drop j)):DG b (U'.set (j+n) (top+c))∧dv b ((U'.set (j+n) (top+c)).drop j)<dv b v∧dv b (U'.set (j+n) (top+c))=dv b U - b^j*((t - 1)*dv b v)∧0≤t - 1∧(U'.set (j+n) (top+c)).length=U.length:=by
 obtain ⟨lo,l0,l1,l2⟩:=hs.sign hb hz hj
 have hp:=hs.part (by omega)
 have hlen:=hs.len
 obtain ⟨a1,a2,a3,a4,a5,a6,a7⟩:=h
 have hd:Ig.Qf U' (j+n)=top:=by rw [ZY a4 (Nat.le_refl _),hs.tp]
 rw [List.take_of_length_le (by omega)] at a7
 have hv0:=Qx (b:=b) (by omega) hv
 have hv1:=Z4 (b:=b) (by omega) hv
 rw [hn] at hv1
 have hB:=pow_pos (b:=b) (by omega) n
 have hw:dv b (U'.set (j+n) (top+c))=dv b U - b^j*((t - 1)*dv b v):=by
  rw [GL b (by omega),hd]
  have e:=hs.h
  generalize b^(j+n)=p at *
  generalize b^j=q at *
  grind
 have hlo:(U'.set (j+n) (top+c)).take j=U.take j:=by
  rw [List.take_set_of_le (by omega),a3,hs.lo]
 have hpart:dv b ((U'.set (j+n) (top+c)).drop j)=dv b (U.drop j) - (t - 1)*dv b v:=by
  have e:=hw
  rw [ZF b _ j,ZF b U j,hlo] at e
  have hq:=pow_pos (b:=b) (by omega) j
  have e2:b^j*dv b ((U'.set (j+n) (top+c)).drop j)=b^j*(dv b (U.drop j) - (t - 1)*dv b v):=by
   rw [Int.mul_sub];generalize b^j*dv b ((U'.set (j+n) (top+c)).drop j)=x at *;generalize b^j*dv b (U.drop j)=y at *;omega
  exact Int.eq_of_mul_eq_mul_left (by omega) e2
 have hneg:dv b (U1.drop j)<0:=by
  rw [l2]
  have:b^n*top≤b^n*(-1):=Int.mul_le_mul_of_nonneg_left (by omega) (by omega)
  omega
 have hlt:dv b ((U'.set (j+n) (top+c)).drop j)<dv b v:=by
  rw [hpart,Int.sub_mul,Int.one_mul];omega
 have hge:0≤dv b ((U'.set (j+n) (top+c)).drop j):=by rw [hpart];omega
 have hsd:dv b ((U'.set (j+n) (top+c)).drop j)=dv b ((U'.drop j).take n)+b^n*(top+c):=by
  have hw2:=congrArg (dv b) (D9 (l:=U'.set (j+n) (top+c)) (j:=j) (n:=n) (by simp;omega))
  have e3:(U'.set (j+n) (top+c)).drop (j+n+1)=U'.drop (j+n+1):=List.drop_set_of_lt (by omega)
  rw [ZQ,YT,Vs (show j+n<U'.length by omega),if_pos rfl,e3] at hw2
  have:dv b (U'.drop (j+n+1))=0:=by
   rw [← List.drop_drop,a4,List.drop_drop,hs.hi];exact hz
  have e2:((U'.set (j+n) (top+c)).drop j).take n=(U'.drop j).take n:=by
   rw [List.drop_set,if_neg (by omega),Nat.add_sub_cancel_left,List.take_set_of_le (Nat.le_refl _)]
  rw [this,e2,show((U'.drop j).take n).length=n by simp;omega] at hw2
  simpa using hw2
 have hdg:DG b ((U'.drop j).take n):=by
  have:=((a2.drop j).take n)
  rw [List.drop_set,if_neg (by omega),Nat.add_sub_cancel_left,List.take_set_of_le (Nat.le_refl _)] at this;exact this
 have d0:=Qx (b:=b) (by omega) hdg
 have d1:=Z4 (b:=b) (by omega) hdg
 rw [show((U'.drop j).take n).length=n by simp;omega] at d1
 have ht0:top+c=0:=by
  rw [hsd] at hlt hge
  have q1:¬ 1≤top+c:=fun q=>by
   have:b^n*1≤b^n*(top+c):=Int.mul_le_mul_of_nonneg_left q (by omega)
   omega
  have q2:¬ top+c≤-1:=fun q=>by
   have:b^n*(top+c)≤b^n*(-1):=Int.mul_le_mul_of_nonneg_left q (by omega)
   omega
  omega
 refine⟨?_,hlt,hw,?_,by simp;omega⟩
 ·rw [ht0];exact a2
 ·rcases Int.lt_or_le (t - 1) 0 with q | q
  ·exfalso
   have u0:=Qx (b:=b) (by omega) (hU.drop j)
   have:t*dv b v≤0:=Int.mul_nonpos_of_nonpos_of_nonneg (by omega) hv0
   omega
  ·exact q
end Ig
namespace Go.Proofs.YtknegjaeoffnbaaGreatDoor
section
open Go.RowKit Ig
def el {α:Type} [Inhabited α] (l:List α) (i:Nat):α:=l.getD i default
theorem Zi {α:Type} [Inhabited α] {l:List α} {i:Nat} (h:i<l.length):el l i=l[i]:=by simp [el,h]
theorem Je {α:Type} [Inhabited α] {l:List α} {i:Nat} (h:i<l.length):el l i∈l:=by rw [Zi h];exact List.getElem_mem h
theorem XU {α:Type} [Inhabited α] {f:α→List Value} {k:Nat} (hf:∀ x,(f x).length=k) {l:List α} {i j:Nat} {u:Value} (h:i<l.length) (hj:(f (el l i))[j]?=some u):(l.flatMap f)[i*k+j]?=some u:=by
 have hlt:j<k:=by
  rcases Nat.lt_or_ge j k with g | g
  ·exact g
  ·rw [List.getElem?_eq_none (by rw [hf];exact g)] at hj;cases hj
 rw [SU hf l i j h hlt,← Zi h];exact hj
theorem NU {α:Type} [Inhabited α] {f:α→Value} {l:List α} {i:Nat} (h:i<l.length):(l.map f)[i*1]?=some (f (el l i)):=by
 rw [Nat.mul_one,List.getElem?_map,List.getElem?_eq_getElem h,Zi h];rfl
theorem ZL {α:Type} [Inhabited α] {l:List α} {i:Nat} (h:i<l.length):l.take (i+1)=l.take i++[el l i]:=by
 rw [List.take_succ_eq_append_getElem h,Zi h]
theorem MG {α:Type} [Inhabited α] {l:List α} {i:Nat} (h:i<l.length):l.drop i=el l i::l.drop (i+1):=by
 rw [List.drop_eq_getElem_cons h,Zi h]
theorem X9 {l:List Int} {i:Nat} (h:i<l.length):Qf l i=el l i:=by rw [ZR h,Zi h]
def zU (q:Option Addr):Nat:=(q.getD ⟨0,0,none⟩).block
def zT (q:Option Addr):Nat:=(q.getD ⟨0,0,none⟩).off
section
variable [Dr] [df:Df] {P:Program} {Q:Exit→Act→World→Prop} {N:Nat} {m:Sl} {E E0:Env} {ops:Array Oper} {l:List Oper} {w0:World} {F0:Gs} {bs:List (Nat×Obj)} {G:Gs→Prop} {ty:TypeId}
theorem Jc {T e:TypeId} {x y:Operand} {q:Option Addr} {n c sz sz':Nat} {g:Bool} {cs:List Value} (i:Nat) (hr:∀ F,G F→JF F q n sz' cs) (hx:ev m x=some (.slice q n c)) (hy:ev m y=some (.int .i64 (i:Int))) (hT:H9 P T=some e) (hs:YJ P e=some (g,sz)) (hi:i<n) :
  Qt P N m (St ⟨w0,F0,bs,G⟩) (.indexAddr T x y) ty (.pointer (some ⟨zU q,zT q+i*sz,none⟩)):=fun a w _ _ _ _ ha hw=>by
 obtain ⟨F,hF⟩:=id hw
 obtain ⟨b,off,rfl⟩:=(hr F hF.hG).ptr (by omega)
 exact Qy hx hy hT hs hi a w _ _ _ _ ha hw
theorem Ji {T:TypeId} {x:Operand} {q:Option Addr} {n sz k:Nat} {cs:List Value} (j:Nat) {u:Value} (hr:∀ F,G F→JF F q n sz cs) (hn:0<n) (hx:ev m x=some (.pointer (some ⟨zU q,zT q+j,none⟩))) (ht:YJ P T=some (false,k)) (hu:cs[j]?=some u) :
  Qt P N m (St ⟨w0,F0,bs,G⟩) (.load T x) ty u:=fun a w _ _ _ _ ha hw=>by
 obtain ⟨F,hF⟩:=id hw
 obtain ⟨b,off,rfl⟩:=(hr F hF.hG).ptr hn
 exact XW hx ht hr hn hu a w _ _ _ _ ha hw
theorem ZB {T:TypeId} {x:Operand} {q:Option Addr} {n sz k:Nat} {cs vs:List Value} (j:Nat) (hr:∀ F,G F→JF F q n sz cs) (hn:0<n) (hx:ev m x=some (.pointer (some ⟨zU q,zT q+j,none⟩))) (ht:YJ P T=some (true,k)) (hl:vs.length=k) (hu:∀ i v,vs[i]?=some v→cs[j+i]?=some v) :
  Qt P N m (St ⟨w0,F0,bs,G⟩) (.load T x) ty (.agg vs.toArray):=fun a w _ _ _ _ ha hw=>by
 obtain ⟨F,hF⟩:=id hw
 obtain ⟨b,off,rfl⟩:=(hr F hF.hG).ptr hn
 exact Db hx ht hr hn hl hu a w _ _ _ _ ha hw
theorem Y4.append {m:Sl}:∀ {k l:Sl},Y4 m k→Y4 m l→Y4 m (k++l)
 |[],_,_,h=>h
 |(_,_)::_,_,⟨h1,h2⟩,h=>⟨h1,Y4.append h2 h⟩
theorem Jz {ι:Type} {c:Code} (K:Sl) (M:ι→Sl) (B:ι→List (Nat×Obj)) (R:ι→Gs→Prop) (μ:ι→Nat) (i0:ι)
  (hk:Y4 m K) (hm:Y4 m (M i0)) (hb:(B i0).Sublist bs) (hg:∀ F,G F→R i0 F)
  (round:∀ i,J P c (Exit.then (Is N w0 F0 (fun i=>K++M i) B (fun i F=>G F∧R i F) μ i) Q) N (K++M i) ⟨w0,F0,B i,fun F=>G F∧R i F⟩):J P (.loop c) Q N m ⟨w0,F0,bs,G⟩ :=
 XS (fun i=>K++M i) B (fun i F=>G F∧R i F) μ i0 (hk.append hm) hb (fun F h=>⟨h,hg F h⟩) round
theorem YU {ι:Type} {c:Code} (K:Sl) (M:ι→Sl) (μ:ι→Nat) (i0:ι) (hk:Y4 m K) (hm:Y4 m (M i0))
  (round:∀ i,J P c (Exit.then (Is N w0 F0 (fun i=>K++M i) (fun _=>bs) (fun _=>G) μ i) Q) N (K++M i) ⟨w0,F0,bs,G⟩):J P (.loop c) Q N m ⟨w0,F0,bs,G⟩ :=
 XS (fun i=>K++M i) (fun _=>bs) (fun _=>G) μ i0 (hk.append hm) (List.Sublist.refl _) (fun _ h=>h) round
theorem Z5 {x y:Code} (K M:Sl) (hk:Y4 m K) (h1:J P x (Xu (fun a w=>Js N (K++M) a∧St ⟨w0,F0,bs,G⟩ w)) N m ⟨w0,F0,bs,G⟩) (h2:J P y Q N (K++M) ⟨w0,F0,bs,G⟩):J P (.seq x y) Q N m ⟨w0,F0,bs,G⟩ :=
 x3 _ _ _ h1 h2
theorem Ik {ι:Type} {x y:Code} (K:Sl) (M:ι→Sl) (B:ι→List (Nat×Obj)) (R:ι→Gs→Prop) (hk:Y4 m K) (h1:J P x (Xu (fun a w=>∃ i,Js N (K++M i) a∧St ⟨w0,F0,B i,fun F=>G F∧R i F⟩ w)) N m ⟨w0,F0,bs,G⟩)
  (h2:∀ i,J P y Q N (K++M i) ⟨w0,F0,B i,fun F=>G F∧R i F⟩):J P (.seq x y) Q N m ⟨w0,F0,bs,G⟩ :=
 Kq (fun i=>K++M i) B (fun i F=>G F∧R i F) h1 h2
end
end
section
open Go.RowKit Ig
theorem Bq:(1:Int)<B9:=by decide
theorem R9 {b:List Int} {n:Nat} (db:DG B9 b) (zb:NZ b) (hn:b.length=n+1):1≤Qf b n∧1≤B9 / (Qf b n+1)∧B9 / (Qf b n+1)<B9∧B9 / (Qf b n+1)*(Qf b n+1)≤B9:=by
 have hd:=db.Qf JG n
 have h1:1≤Qf b n:=by
  have hlt:n<b.length:=by omega
  have:Qf b n≠0:=by
   intro e
   refine zb ?_
   rw [List.getLast?_eq_getElem?,hn,Nat.add_sub_cancel,List.getElem?_eq_getElem hlt]
   rw [ZR hlt] at e;rw [e]
  omega
 have h9:B9=1000000000:=rfl
 refine⟨h1,?_,?_,Int.ediv_mul_le _ (by omega)⟩
 ·exact(Int.le_ediv_iff_mul_le (by omega)).2 (by omega)
 ·exact Int.ediv_lt_of_lt_mul (by omega) (by rw [Int.mul_add];have:B9*1≤B9*Qf b n:=Int.mul_le_mul_of_nonneg_left h1 (by omega);omega)
theorem Cd {b v:List Int} {n:Nat} {f:Int} (db:DG B9 b) (zb:NZ b) (hn:b.length=n+1) (dv':DG B9 v) (zv:NZ v) (h:dv B9 v=dv B9 b*f) (h1:1≤f) (h2:f*(Qf b n+1)≤B9):v.length=n+1:=by
 have hlt:n<b.length:=by omega
 have e1:dv B9 b=dv B9 (b.take n)+B9^n*Qf b n:=by
  have:=VU B9 b n
  rw [List.take_of_length_le (by omega)] at this;exact this
 have e2:=Z4 JG (db.take n)
 rw [show(b.take n).length=n by simp;omega] at e2
 have hb0:B9^n≤dv B9 b:=by
  have:=B0 JG db zb (by intro e;rw [e] at hn;simp at hn)
  rw [hn,Nat.add_sub_cancel] at this;exact this
 have hp:=pow_pos JG n
 have hup:dv B9 b<B9^n*(Qf b n+1):=by rw [Int.mul_add,Int.mul_one];omega
 have hv1:dv B9 v<B9^(n+1):=by
  rw [h,Int.pow_succ]
  have:dv B9 b*f<B9^n*(Qf b n+1)*f:=Int.mul_lt_mul_of_pos_right hup (by omega)
  have q:B9^n*(Qf b n+1)*f≤B9^n*B9:=by
   rw [Int.mul_assoc,Int.mul_comm (Qf b n+1)]
   exact Int.mul_le_mul_of_nonneg_left h2 (by omega)
  omega
 have hv0:B9^n≤dv B9 v:=by
  rw [h]
  have:dv B9 b*1≤dv B9 b*f:=Int.mul_le_mul_of_nonneg_left h1 (by omega)
  omega
 rcases Nat.lt_trichotomy v.length (n+1) with g | g | g
 ·have h3:=Z4 JG dv'
  have h4:=KQ (b:=B9) (by decide) (show v.length≤n by omega)
  omega
 ·exact g
 ·have h3:=B0 JG dv' zv (by intro e;rw [e] at g;simp at g)
  have h4:=KQ (b:=B9) (by decide) (show n+1≤v.length - 1 by omega)
  omega
theorem z8 {b:Int} (hb:0<b) {U:List Int} {k:Nat} (hU:DG b U):b^k*dv b (U.drop k)≤dv b U:=by
 rw [ZF b U k]
 have:=Qx hb (hU.take k)
 omega
structure DN (a v:List Int) (f:Int) (n:Nat) where
 k:Nat
 U:List Int
 Q:List Int
 le:k+n≤a.length+1
 lu:U.length=a.length+1
 lq:Q.length=a.length+1 - n
 du:DG B9 U
 dq:DG B9 Q
 lt:dv B9 (U.drop k)<dv B9 v
 h:dv B9 a*f=dv B9 v*(B9^k*dv B9 (Q.drop k))+dv B9 U
def DN.start {a b v U:List Int} {f:Int} {n:Nat} (da:DG B9 a) (db:DG B9 b) (zb:NZ b) (hn:b.length=n+1) (hv:dv B9 v=dv B9 b*f) (h1:1≤f) (du:DG B9 U) (lu:U.length=a.length+1) (hU:dv B9 U=dv B9 a*f) (hl:n+1≤a.length+1):DN a v f (n+1) where
 k:=a.length+1 - (n+1)
 U:=U
 Q:=List.replicate (a.length+1 - (n+1)) 0
 le:=by omega
 lu:=lu
 lq:=by simp
 du:=du
 dq:=DG.replicate JG _
 lt:=by
  have hb0:B9^n≤dv B9 b:=by
   have:=B0 JG db zb (by intro e;rw [e] at hn;simp at hn)
   rw [hn,Nat.add_sub_cancel] at this;exact this
  have h2:=z8 JG (k:=a.length - n) du
  have h3:=Z4 JG da
  have h4:dv B9 a*f<B9^a.length*f:=Int.mul_lt_mul_of_pos_right h3 (by omega)
  have h5:B9^a.length*f=B9^(a.length - n)*(B9^n*f):=by rw [← Int.mul_assoc,← Int.pow_add];congr 2;omega
  rw [hU] at h2
  have h6:B9^(a.length - n)*dv B9 (U.drop (a.length - n))<B9^(a.length - n)*(B9^n*f):=by omega
  have h7:dv B9 (U.drop (a.length - n))<B9^n*f:=Int.lt_of_mul_lt_mul_left h6 (by have:=pow_pos JG (a.length - n);omega)
  have h8:B9^n*f≤dv B9 b*f:=Int.mul_le_mul_of_nonneg_right hb0 (by omega)
  rw [show a.length+1 - (n+1)=a.length - n by omega,hv]
  omega
 h:=by
  rw [List.drop_of_length_le (by simp),Sa,Int.mul_zero,Int.mul_zero,Int.zero_add,hU]
theorem DN.zero {a v:List Int} {f:Int} {n:Nat} (i:DN a v f n) (dv':DG B9 v) (hv:v.length=n):dv B9 (i.U.drop (i.k+n))=0:=by
 have:=Z4 JG dv'
 rw [hv] at this
 exact LY Bq i.du (Int.lt_trans i.lt this)
theorem DN.OZ {a v:List Int} {f:Int} {m:Nat} (i:DN a v f (m+2)) (dv':DG B9 v) (zv:0<Qf v (m+1)) (hv:v.length=m+2) (hk:0<i.k):Vc B9 ((i.U.drop (i.k - 1)).take (m+3)) v m∧dv B9 (i.U.drop (i.k - 1))=dv B9 ((i.U.drop (i.k - 1)).take (m+3)):=by
 have hz:=i.zero dv' hv
 have hle:=i.le
 have hlu:=i.lu
 have e:dv B9 (i.U.drop (i.k - 1))=dv B9 ((i.U.drop (i.k - 1)).take (m+3)):=by
  have:=ZF B9 (i.U.drop (i.k - 1)) (m+3)
  rw [List.drop_drop,show i.k - 1+(m+3)=i.k+(m+2) by omega,hz] at this
  simpa using this
 refine⟨⟨(i.du.drop _).take _,dv',by simp;omega,hv,zv,?_⟩,e⟩
 rw [← e,J8 (by omega),YT,show i.k - 1+1=i.k by omega]
 have hd:=i.du.Qf JG (i.k - 1)
 have hlt:=i.lt
 have:B9*dv B9 (i.U.drop i.k)≤B9*(dv B9 v - 1):=Int.mul_le_mul_of_nonneg_left (by omega) (by decide)
 rw [Int.mul_sub,Int.mul_one] at this
 omega
def DN.next {a v:List Int} {f:Int} {n:Nat} (i:DN a v f n) (hk:0<i.k) (hn:0<n) {U1:List Int} {t:Int} (t0:0≤t) (t1:t<B9) (h1:DG B9 U1) (h2:dv B9 (U1.drop (i.k - 1))<dv B9 v) (h3:dv B9 U1=dv B9 i.U - B9^(i.k - 1)*(t*dv B9 v)) (h4:U1.length=i.U.length):DN a v f n where
 k:=i.k - 1
 U:=U1
 Q:=i.Q.set (i.k - 1) t
 le:=by have:=i.le;omega
 lu:=by rw [h4,i.lu]
 lq:=by rw [List.length_set,i.lq]
 du:=h1
 dq:=i.dq.set _ t0 t1
 lt:=h2
 h:=by
  have hle:=i.le
  have hlq:=i.lq
  rw [h3,J8 (l:=i.Q.set (i.k - 1) t) (by rw [List.length_set];omega),YT,Vs (by omega),if_pos rfl,List.drop_set_of_lt (by omega),show i.k - 1+1=i.k by omega,i.h]
  have e:B9^i.k=B9^(i.k - 1)*B9:=by rw [← Int.pow_succ];congr 1;omega
  rw [e]
  generalize B9^(i.k - 1)=p
  generalize dv B9 (i.Q.drop i.k)=q
  generalize dv B9 i.U=u
  generalize dv B9 v=y
  generalize B9=B
  grind
theorem DN.stop {a b v:List Int} {f:Int} {n:Nat} (i:DN a v f n) (hk:i.k=0) (db:DG B9 b) (da:DG B9 a) (hv:dv B9 v=dv B9 b*f) (h1:1≤f) (hb:0<dv B9 b) (dv':DG B9 v) (lv:v.length=n) :
  dv B9 i.Q=dv B9 a / dv B9 b∧dv B9 (i.U.take n)=f*(dv B9 a%dv B9 b):=by
 have h:=i.h
 have lt:=i.lt
 rw [hk,List.drop_zero] at lt
 have hz:=i.zero dv' lv
 rw [hk,Nat.zero_add] at hz
 have e0:dv B9 (i.U.take n)=dv B9 i.U:=by
  rw [ZF B9 i.U n,hz];simp
 rw [hk,List.drop_zero,Int.pow_zero,Int.one_mul,hv] at h
 rw [hv] at lt
 have u0:=Qx JG i.du
 rw [e0]
 have e1:dv B9 i.U=f*(dv B9 a - dv B9 b*dv B9 i.Q):=by rw [Int.mul_sub];grind
 have lt2:f*(dv B9 a - dv B9 b*dv B9 i.Q)<f*dv B9 b:=by rw [← e1,Int.mul_comm f (dv B9 b)];exact lt
 have r1:dv B9 a - dv B9 b*dv B9 i.Q<dv B9 b:=Int.lt_of_mul_lt_mul_left lt2 (by omega)
 have r0:0≤dv B9 a - dv B9 b*dv B9 i.Q:=by
  rcases Int.lt_or_le (dv B9 a - dv B9 b*dv B9 i.Q) 0 with g | g
  ·have:f*(dv B9 a - dv B9 b*dv B9 i.Q)≤f*(-1):=Int.mul_le_mul_of_nonneg_left (by omega) (by omega)
   omega
  ·exact g
 have q:dv B9 a / dv B9 b=dv B9 i.Q:=Xz hb (by rw [Int.mul_comm];omega) (by rw [Int.add_mul,Int.one_mul,Int.mul_comm];omega)
 refine⟨q.symm,?_⟩
 rw [e1]
 have:=Int.emod_def (dv B9 a) (dv B9 b)
 rw [this,q]
end
section
open Go.RowKit Ig
section
variable [Dr] [df:Df] {P:Program} {Q:Exit→Act→World→Prop} {N:Nat} {m:Sl} {ops:Array Oper} {l:List Oper} {w0:World} {F0:Gs} {bs:List (Nat×Obj)} {G:Gs→Prop} {ty:TypeId} {pos:String} {aft:Array Edge}
theorem GU {d:Nat} {t e:TypeId} {sz:Nat} {g:Bool} (ht:P.underlying t=some (.slice e)) (hs:YJ P e=some (g,sz)) (k:∀ b,JS P ops Q l N ((d,.slice (some ⟨b,0,none⟩) 0 0)::m) ⟨w0,F0,(b,.cells #[] e (0,0))::bs,G⟩) (hu:Wb e=true:=by rfl) (hd:J4 N (some d)=true:=by rfl) :
  JS P ops Q (⟨some d,.buildSlice t 0 #[],ty,pos,aft,none⟩::l) N m ⟨w0,F0,bs,G⟩:=fun a w ha hw=>wpList_plain rfl fun K hK=>by
 refine upon_value (v:=.slice (some ⟨w.heap.size,0,none⟩) 0 0) (w':=w.alloc (.cells #[] e)) ?_ (hK _ _ (k _ _ _ (ha.put hd _) (hw.alloc _ (Xj hu))))
 have hrun:(Instr.buildSlice t 0 #[]).run P w = .ok (.slice (some ⟨w.heap.size,0,none⟩) 0 0) (w.alloc (.cells #[] e)):=by
  have hf:Instr.fill (fun i=>some (i*sz,sz)) (Array.map (fun x=>(#[]:Array Value)[x%(#[]:Array Value).size]!) (Array.range 0)) []=some #[]:=by simp [Instr.fill]
  simp only [Instr.buildSlice,Sem.run_bind,run_underlying ht,Result.andThen_ok,YK hs,Nat.zero_mul,if_neg (show ¬ 0>2^24 by omega),Sem.run_pure,if_true,hf,newRow,run_newObj]
  rfl
 simp [execOp,hrun]
theorem Te {T e e':TypeId} {sz n:Nat} {x:Operand} {v:Value} {cs:List Value} {ob:List (Nat×Obj)} {S:World→Prop} (hx:ev m x=some v) (hr:Q4 e' sz v n cs ob) (hT:H9 P T=some e):Qt P N m S (.call ⟨.builtin .len,#[x],#[T]⟩) ty (.int .i64 n):=by
 cases hr with
 |nil=>exact Ql hx hT
 |some=>exact Ql hx hT
theorem Q4.gz {T:TypeId} {sz n:Nat} {v:Value} {cs:List Value} {ob:List (Nat×Obj)} (hr:Q4 T sz v n cs ob) (hn:0<n):∃ b cap rest,v = .slice (Option.some ⟨b,0,Option.none⟩) n cap∧ob=[(b,.cells (cs++rest).toArray T (0,0))]∧n≤cap:=by
 cases hr with
 |nil=>exact absurd hn (Nat.lt_irrefl 0)
 |some h1 h2 h3 h4=>exact⟨_,_,_,rfl,rfl,h3⟩
theorem Src.vX {sz k b off c:Nat} {news:List Value} (hr:∀ F,G F→JF F (some ⟨b,off,none⟩) k sz news) (hk:0<k) (hl:news.length=k*sz):Src ⟨w0,F0,bs,G⟩ sz (.slice (.some ⟨b,off,none⟩) k c) k news :=
 ⟨hl,.inr ⟨_,_,rfl,fun w hw j v hv=>by rw [Vb];exact K2 hw hr hk hv⟩⟩
end
theorem JP.own {F:Gs} {b n c:Nat} {l:List Int} {rest:List Value} {T:TypeId} (h:F b=some ((l.map Qz++rest).toArray,T)) (hl:l.length=n) (hn:n≤c):JP F ⟨some ⟨b,0,none⟩,n,c⟩ l:=by
 refine⟨⟨by simp [hl],fun _=>⟨b,0,_,T,rfl,h,fun j u hu=>?_⟩⟩,hl,hn⟩
 have hj:j<(l.map Qz).length:=by rcases Nat.lt_or_ge j (l.map Qz).length with g | g;exact g;rw [List.getElem?_eq_none g] at hu;cases hu
 rw [Nat.zero_add,List.getElem?_toArray,List.getElem?_append,if_pos hj];exact hu
theorem JP.vZ {F:Gs} {b n c:Nat} {l:List Int} {T:TypeId} (h:F b=some ((l.map Qz).toArray,T)) (hl:l.length=n) (hn:n≤c):JP F ⟨some ⟨b,0,none⟩,n,c⟩ l:=JP.own (rest:=[]) (by rw [List.append_nil];exact h) hl hn
theorem JP.one {F:Gs} {b:Nat} {x:Int} {T:TypeId} (h:F b=some (([Value.int .i64 x]:List Value).toArray,T)):JP F ⟨some ⟨b,0,none⟩,1,1⟩ [x]:=⟨JF.of h rfl,rfl,Nat.le_refl _⟩
theorem JP.take {F:Gs} {q:Option Addr} {n c k:Nat} {l:List Int} (h:JP F ⟨q,n,c⟩ l) (hk:k≤n):JP F ⟨q,k,c⟩ (l.take k):=by
 have hn:=h.2.1
 have hc:=h.2.2
 dsimp only at hn hc
 exact⟨h.1.take hn hk,by simp;omega,by show k≤c;omega⟩
theorem KT {l m:List Int} (hl:DG B9 l) (hm:DG B9 m) (zl:NZ l) (h:dv B9 l≤dv B9 m):l.length≤m.length:=by
 rcases Nat.lt_or_ge m.length l.length with g | g
 ·have:=Xb Bq hm hl zl g;omega
 ·exact g
theorem SZ (x:Int):dv B9 [x]=x:=by simp [dv]
theorem Ow {f x r t:Int} (hf:0<f) (h:f*x=f*r+t) (h0:0≤t) (h1:t<f):r=x:=by
 have e:t=f*(x - r):=by rw [Int.mul_sub];omega
 rcases Int.lt_trichotomy (x - r) 0 with g | g | g
 ·have:f*(x - r)≤f*(-1):=Int.mul_le_mul_of_nonneg_left (by omega) (by omega)
  omega
 ·omega
 ·have:f*1≤f*(x - r):=Int.mul_le_mul_of_nonneg_left (by omega) (by omega)
  omega
def zA (a b:List Int) (c:(Sr×List Int)×(Sr×List Int)) (F:Gs):Prop :=
 (JP F c.1.1 c.1.2∧DG B9 c.1.2∧NZ c.1.2∧dv B9 c.1.2=dv B9 a / dv B9 b)∧(JP F c.2.1 c.2.2∧DG B9 c.2.2∧NZ c.2.2∧dv B9 c.2.2=dv B9 a%dv B9 b)
theorem jM {F:Gs} {a b:List Int} (nb:b.length=1) (db:DG B9 b) (c:(Sr×List Int)×Int) {k:Nat}
  (h:JP F c.1.1 c.1.2∧DG B9 c.1.2∧NZ c.1.2∧0≤c.2∧c.2<Qf b 0∧dv B9 a=Qf b 0*dv B9 c.1.2+c.2∧c.1.2.length≤a.length) (h':JP F ⟨some ⟨k,0,none⟩,(Q2 [c.2]).length,1⟩ (Q2 [c.2])) :
  zA a b ((c.1.1,c.1.2),(⟨some ⟨k,0,none⟩,(Q2 [c.2]).length,1⟩,Q2 [c.2])) F:=by
 obtain ⟨h1,h2,h3,h4,h5,h6,_⟩:=h
 have e:dv B9 b=Qf b 0:=by
  obtain ⟨x,rfl⟩:=List.length_eq_one_iff.1 nb
  simp [dv,Qf]
 have b0:=db.Qf JG 0
 refine⟨⟨h1,h2,h3,?_⟩,h',(DG.cons h4 (by omega) (DG.nil _)).Q2,Xf _,?_⟩
 ·show dv B9 c.1.2=_
  rw [e];exact(Xz (by omega) (by rw [Int.mul_comm];omega) (by rw [Int.add_mul,Int.one_mul,Int.mul_comm];omega)).symm
 ·show dv B9 (Q2 [c.2])=_
  rw [J7,SZ,e,Zk (q:=dv B9 c.1.2) (by rw [Int.mul_comm];omega) (by rw [Int.add_mul,Int.one_mul,Int.mul_comm];omega),Int.mul_comm];omega
structure gF (a:List Int) (f:Int) where
 U:List Int
 v:Value
 ob:List (Nat×Obj)
 le:U.length≤a.length+1
 du:DG B9 U
 h:dv B9 U=dv B9 a*f
 hr:Q4 3 1 v U.length (U.map Qz) ob
structure gC (U v:List Int) (j:Nat) (t:Int) where
 i:Nat
 U':List Int
 br:Int
 le:i≤v.length
 h:Pc B9 U v j t i U' br
structure gU (U v:List Int) (j n:Nat) where
 i:Nat
 U':List Int
 c:Int
 le:i≤n
 h:DQ B9 U v j n i U' c
@[reducible] def vR (c:(Sr×List Int)×(Sr×List Int)):Value:=.tuple #[.slice c.1.1.q c.1.1.n c.1.1.cap,.slice c.2.1.q c.2.1.n c.2.1.cap]
set_option maxHeartbeats 4000000 in
theorem Kw {w:World} {F:Gs} {ra rb:Sr} {a b:List Int} (hF:Fits F w) (hA:JP F ra a) (hB:JP F rb b) (da:DG B9 a) (db:DG B9 b) (za:NZ a) (zb:NZ b) (hb:0<dv B9 b) (la:a.length≤10000000) (lb:b.length≤10000000) :
  QT Tryz.prog 201 [ra.v,rb.v] w F vR (fun c F=>zA a b c F):=by
 obtain ⟨q,n,c⟩:=ra
 obtain ⟨q',n',c'⟩:=rb
 have na:=hA.2.1
 have nb:=hB.2.1
 dsimp only at na nb
 have h9:B9=1000000000:=rfl
 have nb0:0<n':=by
  rcases Nat.eq_zero_or_pos n' with g | g
  ·rw [g] at nb;rw [List.eq_nil_of_length_eq_zero nb] at hb;simp at hb
  ·exact g
 dsimp only [Sr.v]
 refine QT.intro (G:=fun F=>JP F ⟨q,n,c⟩ a∧JP F ⟨q',n',c'⟩ b) Tryz.func201 rfl (by rfl) rfl rfl hF (fun F' hF'=>⟨hA.le hF',hB.le hF'⟩)<|QG<|QB<|QA (QE rfl)<|QA (QE rfl)<|QF<|QD<|QG<|QG<|QB<|QA (QC rfl)<|QA (QC rfl)<|QH rfl (fun w F hF ⟨hA,hB⟩=>WA hF (ra:=⟨q,n,c⟩) (rb:=⟨q',n',c'⟩) hA (hB) (da) (db) (za) (zb) (by omega) (by omega)) (fun _=>QA (QU rfl rfl rfl)<|QF<|QD ?_)
 refine QO rfl (fun hc=>?_) (fun hc=>?_)
 ·
  have hlt:dv B9 a<dv B9 b:=by have:=of_decide_eq_true hc;unfold ZU at this;split at this;assumption;split at this<;>omega
  refine QG<|QB<|QA (QC rfl)<|QA (QE rfl)<|QA (QE rfl)<|QF<|QD<|QS ?_
  exact JH (((⟨none,0,0⟩,[]),(⟨q,n,c⟩,a)):(Sr×List Int)×(Sr×List Int)) rfl (.tmp rfl (.tmp rfl .nil)) (rfl) (fun F ⟨⟨hA,hB⟩,_⟩=>⟨⟨⟨JF.nil F _ _,rfl,Nat.le_refl _⟩,DG.nil _,by simp [NZ],by rw [Sa];exact(Int.ediv_eq_zero_of_lt (Qx JG da) hlt).symm⟩,hA,da,za,(Int.emod_eq_of_lt (Qx JG da) hlt).symm⟩)
 ·
  have hge:dv B9 b≤dv B9 a:=by have:=of_decide_eq_false hc;unfold ZU at this;split at this;exact absurd this (by decide);omega
  refine QN<|QD<|QG<|QG<|QB<|QA (QC rfl)<|QA (Ql rfl Qe)<|QA (QU rfl rfl rfl)<|QF<|QD ?_
  refine QO rfl (fun hc=>?_) (fun hc=>?_)
  ·
   have hn1:n'=1:=by have:=of_decide_eq_true hc;omega
   subst hn1
   obtain ⟨f1,_⟩:=R9 (n:=0) db zb nb
   have bx:=db.Qf JG 0
   have d0:=bx.2
   refine QG<|QB<|QA (QC rfl)<|QA (QC rfl)<|QA (Jc (n:=1) (0) (fun F ⟨⟨hA,hB⟩,_⟩=>(hB).1) rfl (congrArg (fun z:Int=>some (Value.int .i64 z)) (by omega)) Qe Qu (by omega))<|QA (Ji (n:=1) ((0)*1) (fun F ⟨⟨hA,hB⟩,_⟩=>(hB).1) (by omega) rfl Qu (JR (o:=b) (by omega)))<|QH rfl (fun w F hF ⟨⟨hA,hB⟩,_⟩=>EF hF (ra:=⟨q,n,c⟩) hA (da) (by omega) (by omega) (d0)) (fun c37=>QA (QC rfl)<|QA (QK rfl rfl)<|QA (QK rfl rfl)<|QA (QE rfl)<|QA (QE rfl)<|QF<|QD<|QG<|Xl _ (fun w F hF ⟨⟨⟨hA,hB⟩,_⟩,h37⟩=>h37.2) (fun p37=>QB<|QA (QC rfl)<|QA (QC rfl)<|QV rfl (Q8 Qe) Qu Vi rfl rfl (fun b42=>QH rfl (fun w F hF ⟨⟨⟨⟨hA,hB⟩,_⟩,h37⟩,hs42⟩=>WR hF (r:=⟨some ⟨b42,0,none⟩,1,1⟩) (JP.one hs42) (by simp)) (fun c43=>QA (QE rfl)<|QA (QE rfl)<|QF<|QD ?_))))
   refine QS ?_
   exact JH (((c37.1.1,c37.1.2),(⟨some ⟨b42,0,none⟩,(Q2 [c37.2]).length,1⟩,Q2 [c37.2])):(Sr×List Int)×(Sr×List Int)) rfl (.tmp rfl (.tmp rfl .nil)) (rfl) (fun F ⟨⟨⟨⟨⟨hA,hB⟩,_⟩,h37⟩,hs42⟩,h43⟩=>jM nb db c37 h37 h43)
  ·
   have hn2:n'≠1:=fun e=>of_decide_eq_false hc (by omega)
   obtain ⟨m,rfl⟩:∃ m,n'=m+2:=⟨n' - 2,by omega⟩
   obtain ⟨f1,f2,f3,f4⟩:=R9 (n:=m+1) db zb nb
   have bx:=db.Qf JG (m+1)
   rw [h9] at bx f2 f3 f4
   have d1f:DG B9 [1000000000 / (Qf b (m+1)+1)]:=DG.cons (by omega) f3 (DG.nil _)
   refine QN<|QD<|QG<|QB<|QA (QC rfl)<|QA (QC rfl)<|QA (Ql rfl Qe)<|QA (Jx rfl rfl (by omega))<|QA (Jc (n:=(m+2)) (m+1) (fun F ⟨⟨hA,hB⟩,_⟩=>(hB).1) rfl (congrArg (fun z:Int=>some (Value.int .i64 z)) (by omega)) Qe Qu (by omega))<|QA (Ji (n:=(m+2)) ((m+1)*1) (fun F ⟨⟨hA,hB⟩,_⟩=>(hB).1) (by omega) rfl Qu (JR (o:=b) (by omega)))<|QA (Qw rfl rfl (by omega))<|QA (V3 rfl rfl (by omega) (by omega) (by omega))<|QV rfl (Q8 Qe) Qu Vi rfl rfl (fun b52=>QA (QE rfl)<|QF<|QD<|QG<|QB<|QA (QC rfl)<|QA (QC rfl) ?_)
   refine QH rfl (fun w F hF ⟨⟨⟨hA,hB⟩,_⟩,hs52⟩=>WS hF (ra:=⟨q',m+2,c'⟩) (rb:=⟨some ⟨b52,0,none⟩,1,1⟩) hB (JP.one hs52) (db) (d1f) (by omega) (by first | omega | (simp;done) | (simp;omega))) (fun c55=>?_);rcases c55 with ⟨v55,l55⟩;dsimp only
   refine JK _ (fun w F hF ⟨⟨⟨⟨hA,hB⟩,_⟩,hs52⟩,⟨h55,h55p⟩⟩=>And.intro h55.2 h55p) (fun p55=>QA (QE rfl)<|QF<|QD<|QG ?_)
   obtain ⟨⟨n55,c55⟩,d55,e55,z55,m55⟩:=p55
   rw [SZ] at e55
   have l55l:l55.length=m+2:=Cd db zb nb d55 z55 e55 f2 f4
   obtain ⟨qv,nv,cv⟩:=v55
   dsimp only at n55 c55 ⊢
   obtain rfl:nv=m+2:=by omega
   have zv:0<Qf l55 (m+1):=by have:=(R9 (n:=m+1) d55 z55 l55l).1;omega
   have hlab:b.length≤a.length:=KT db da zb hge
   refine QB<|QA (QC rfl)<|QA (Ql rfl Qe)<|QA (QE rfl)<|QF<|QD<|QG<|QB<|GU (Q8 Qe) Qu (fun b58=>QA (QC rfl)<|QA (QC rfl) ?_)
   refine QH rfl (fun w F hF ⟨⟨⟨⟨hA,hB⟩,_⟩,hs52⟩,⟨h55,h55p⟩⟩=>WS hF (ra:=⟨q,n,c⟩) (rb:=⟨some ⟨b52,0,none⟩,1,1⟩) hA (JP.one hs52) (da) (d1f) (by omega) (by first | omega | (simp;done) | (simp;omega))) (fun c61=>?_);rcases c61 with ⟨v61,l61⟩;dsimp only
   refine JK _ (fun w F hF ⟨⟨⟨⟨⟨hA,hB⟩,_⟩,hs52⟩,⟨h55,h55p⟩⟩,⟨h61,h61p⟩⟩=>And.intro h61.2 h61p) (fun p61=>?_)
   obtain ⟨⟨n61,c61⟩,d61,e61,z61,m61⟩:=p61
   rw [SZ] at e61
   have hpos:0<l61.length:=by
    rcases Nat.eq_zero_or_pos l61.length with g | g
    ·rw [List.eq_nil_of_length_eq_zero g,Sa] at e61
     have:0<dv B9 a*(1000000000 / (Qf b (m+1)+1)):=Int.mul_pos (by omega) (by omega)
     omega
    ·exact g
   obtain ⟨qa,na',ca⟩:=v61
   dsimp only at n61 c61 ⊢
   refine JK _ (fun w F hF h=>h.2.1.1.ptr (by dsimp only;omega)) (fun hq=>?_)
   obtain ⟨qab,qao,hq⟩:=hq
   dsimp only at hq
   subst hq
   simp only [List.length_singleton] at m61
   refine Kr (bs1:=[]) (ob:=[(b58,.cells #[] 3 (0,0))]) (n:=0) (k:=na') (sz:=1) (olds:=[]) (news:=l61.map Qz) rfl rfl Qe Qu Vi rfl DF (Q4.some (l:=[]) (rest:=[]) rfl rfl (Nat.le_refl _) (Nat.zero_le _)) (Src.vX (fun F h=>h.2.1.1) (by omega) (by simp;omega)) (by omega) (by omega) (fun v hv=>by obtain ⟨x,_,rfl⟩:=List.mem_map.1 hv;rfl) (fun v62 ob62 hr62=>QA (QE rfl)<|QF<|QD<|QG<|Qa<|Jz (ι:=gF a (1000000000 / (Qf b (m+1)+1))) [(0,_),(8,_),(9,_),(10,_)] (fun i=>[(11,i.v)]) (fun i=>i.ob) (fun i F=>True) (fun i=>a.length+1 - i.U.length) (⟨l61,v62,ob62,by omega,d61,e61,by rw [n61];simpa using hr62⟩) ⟨rfl,rfl,rfl,rfl,trivial⟩ ⟨rfl,trivial⟩ (List.Sublist.refl _) (fun _ _=>trivial) (fun i=>?_))
   simp only [List.cons_append,List.nil_append]
   have hle:=i.le
   refine QG<|QG<|QB<|QA (QC rfl)<|QA (Te rfl i.hr Qe)<|QA (QC rfl)<|QA (Ql rfl Qe)<|QA (Qw rfl rfl (by omega))<|QA (QU rfl rfl rfl)<|QF<|QD ?_
   refine QO rfl (fun hc=>?_) (fun hc=>?_)
   ·
    refine QN<|QD<|Qa<|QB<|QA (QC rfl)<|QV rfl (Q8 Qe) Qu Vi rfl rfl (fun b70=>?_)
    refine Kr (bs1:=[]) (ob:=i.ob) (k:=1) (sz:=1) (news:=[.int .i64 0]) rfl rfl Qe Qu Vi rfl DF i.hr (Src.row (off:=0) (fun F ⟨⟨⟨⟨⟨⟨⟨hA,hB⟩,_⟩,hs52⟩,⟨h55,h55p⟩⟩,⟨h61,h61p⟩⟩,_⟩,hs70⟩=>hs70) (fun j v hv=>by rw [Nat.zero_add];show([.int .i64 0].toArray)[j]?=some v;rw [List.getElem?_toArray];exact hv) rfl) (by omega) (by omega) (Z0 ⟨rfl,trivial⟩) (fun v71 ob71 hr71=>?_)
    refine QA (QE rfl)<|QF<|Qm ?_
    exact Qo (⟨i.U++[0],v71,ob71,by have:=of_decide_eq_true hc;simp;omega,i.du.append (DG.cons (by decide) (by decide) (DG.nil _)),by rw [XV,i.h];simp,by simpa [Qz] using hr71⟩) (by have:=of_decide_eq_true hc;show a.length+1 - (i.U++[0]).length<a.length+1 - i.U.length;rw [List.length_append,List.length_singleton];omega) ⟨rfl,rfl,rfl,rfl,rfl,trivial⟩ (List.Sublist.refl _) (fun F h=>⟨h.1.1,trivial⟩)
   ·
    refine Q6 ?_
    repeat (first | refine Qc ?_ | refine QX (by rfl) ?_)
    refine Qd<|QD<|QG ?_
    have hle0:=i.le
    have hU:i.U.length=a.length+1:=by have:=of_decide_eq_false hc;omega
    obtain ⟨U0,vU,obU,hle0,du0,hU0,hr0⟩:=i
    dsimp only at hU hle0 hU0 ⊢
    rw [hU] at hr0
    obtain ⟨bu,cu,rest,rfl,rfl,hcu⟩:=hr0.gz (by omega)
    refine QB<|QA (QC rfl)<|QA (Ql rfl Qe)<|QA (QC rfl)<|QA (Jx rfl rfl (by omega))<|Sx (n:=a.length+1 - (m+2)) (bytes:=8) (congrArg (fun z:Int=>some (Value.int .i64 z)) (by omega)) (congrArg (fun z:Int=>some (Value.int .i64 z)) (by omega)) Qe Qu Vi rfl DF (by omega) (by omega) (fun bq=>?_)
    rw [show Za [Value.int .i64 0] (a.length+1 - (m+2))=(List.replicate (a.length+1 - (m+2)) (0:Int)).map Qz by rw [VG];simp [Qz]]
    refine ZI (List.Perm.swap _ _ _)<|QA (QE rfl)<|QF<|QD<|QG<|QG<|QB<|QA (QC rfl)<|QA (Ql rfl Qe)<|QA (QC rfl)<|QA (Jx rfl rfl (by omega))<|QA (Jx rfl rfl (by omega))<|QA (QE rfl)<|QF<|QD<|Qa<|Jz (ι:=DN a l55 (1000000000 / (Qf b (m+1)+1)) (m+2)) [(8,_),(9,_),(10,_),(11,_),(12,_)] (fun i2=>[(13,.int .i64 ((i2.k:Int) - 1))]) (fun i2=>[(bu,.cells (i2.U.map Qz++rest).toArray 3 (0,0)),(bq,.cells (i2.Q.map Qz).toArray 3 (0,0))]) (fun i2 F=>True) (fun i2=>i2.k) (DN.start da db zb nb e55 f2 du0 hU hU0 (by omega)) ⟨rfl,rfl,rfl,rfl,rfl,trivial⟩ ⟨(congrArg (fun z:Int=>some (Value.int .i64 z)) (by simp only [DN.start];omega)),trivial⟩ (List.Sublist.refl _) (fun _ _=>trivial) (fun i2=>?_)
    simp only [List.cons_append,List.nil_append]
    have hle2:=i2.le
    have lu2:=i2.lu
    have lq2:=i2.lq
    refine QG<|QG<|QB<|QA (QC rfl)<|QA (QU rfl rfl rfl)<|QF<|QD ?_
    refine QO rfl (fun hc=>?_) (fun hc=>?_)
    ·
     have hk0:0<i2.k:=by have:=of_decide_eq_true hc;omega
     rw [show((i2.k:Int) - 1)=((i2.k - 1:Nat):Int) by omega]
     obtain ⟨hst,hwe⟩:=i2.OZ d55 zv l55l hk0
     have hz0:=i2.zero d55 l55l
     refine QN<|QD<|QG<|Qa<|QG<|QB<|QA (QC rfl)<|QA (QC rfl)<|QA (QC rfl)<|XN (bs1:=_) rfl (List.Perm.refl _) (Ou (rest:=rest) (U:=i2.U) (v:=l55) (j:=(i2.k - 1)) (m:=m) (rv:=⟨qv,m+2,cv⟩) lu2 (by omega) (by omega) (fun F ⟨⟨⟨⟨⟨⟨⟨hA,hB⟩,_⟩,hs52⟩,⟨h55,h55p⟩⟩,⟨h61,h61p⟩⟩,_⟩,_⟩=>h55) hst) (fun t89=>JK _ (fun w F hF h=>h.2) (fun g89=>?_))
     obtain ⟨t0,t1,t2,t3⟩:=g89
     rw [← hwe] at t2 t3
     refine QA (QE rfl)<|QF<|QD<|QG<|QB<|QA (QE rfl)<|QF<|QD<|QG<|QG<|QB<|QA (QE rfl)<|QF<|QD<|Qa<|Jz (ι:=gC i2.U l55 (i2.k - 1) t89) [(8,_),(9,_),(10,_),(11,_),(12,_),(13,_),(14,_)] (fun i3=>[(15,.int .i64 (i3.br)),(16,.int .i64 ((i3.i:Nat):Int))]) (fun i3=>[(bu,.cells (i3.U'.map Qz++rest).toArray 3 (0,0)),(bq,.cells (i2.Q.map Qz).toArray 3 (0,0))]) (fun i3 F=>True) (fun i3=>l55.length - i3.i) (⟨0,i2.U,0,Nat.zero_le _,Pc.start (by decide) i2.du _ _⟩) ⟨rfl,rfl,rfl,rfl,rfl,rfl,rfl,trivial⟩ ⟨rfl,rfl,trivial⟩ (List.Sublist.refl _) (fun _ _=>trivial) (fun i3=>?_)
     simp only [List.cons_append,List.nil_append]
     have hle3:=i3.le
     have lU3:=i3.h.len
     have vr:=i3.h.vr
     have vK:=i3.h.vK
     rw [h9] at vK
     refine QG<|QG<|QB<|QA (QC rfl)<|QA (QC rfl)<|QA (QU rfl rfl rfl)<|QF<|QD ?_
     refine QO rfl (fun hc=>?_) (fun hc=>?_)
     ·
      have hi3:i3.i<m+2:=by have:=of_decide_eq_true hc;omega
      have bd:=qj Bq ⟨t0,t1⟩ (d55.Qf JG i3.i) ⟨i3.h.vr,i3.h.vK⟩
      simp only [h9] at bd
      have bu3:=i3.h.dg.Qf JG ((i2.k - 1)+i3.i)
      rw [h9] at bu3
      have hd3:Qf i3.U' ((i2.k - 1)+i3.i)=Qf i2.U ((i2.k - 1)+i3.i):=ZY i3.h.hi (Nat.le_refl _)
      refine QN<|QD<|QG<|Qa<|QG<|QB<|QA (QC rfl)<|QA (QC rfl)<|QA (QC rfl)<|QA (Jc (n:=(m+2)) (i3.i) (fun F ⟨⟨⟨⟨⟨⟨⟨⟨⟨hA,hB⟩,_⟩,hs52⟩,⟨h55,h55p⟩⟩,⟨h61,h61p⟩⟩,_⟩,_⟩,hg89⟩,_⟩=>(h55).1) rfl rfl Qe Qu (by omega))<|QA (Ji (n:=(m+2)) ((i3.i)*1) (fun F ⟨⟨⟨⟨⟨⟨⟨⟨⟨hA,hB⟩,_⟩,hs52⟩,⟨h55,h55p⟩⟩,⟨h61,h61p⟩⟩,_⟩,_⟩,hg89⟩,_⟩=>(h55).1) (by omega) rfl Qu (JR (o:=l55) (by omega)))<|QA (WB rfl rfl (by omega))<|QA (QC rfl)<|QA (Qw rfl rfl (by omega))<|QA (QE rfl)<|QF<|QD<|QG<|QB<|QA (QC rfl)<|QA (QC rfl)<|QA (QC rfl)<|QA (Qw rfl rfl (by omega))<|QA (Qy (i:=(i2.k - 1)+i3.i) rfl (congrArg (fun z:Int=>some (Value.int .i64 z)) (by omega)) Qe Qu (by omega))<|QA (YR (c:=(i3.U').map Qz++rest) (T':=3) rfl Qu .here (Zl (by first | omega | (simp only [List.length_set];omega)))) ?_
      refine QA (QC rfl)<|QA (Y9 rfl rfl (by omega) (by omega))<|QA (Jx rfl rfl (by omega))<|QA (QE rfl)<|QF<|QD<|QG<|QB<|QA (QC rfl)<|QA (V3 rfl rfl (by omega) (by omega) (by omega))<|QA (QE rfl)<|QF<|QD<|QG<|QG<|QB<|QA (QC rfl)<|QA (QU rfl rfl rfl)<|QF<|QD ?_
      refine QO rfl (fun hc=>?_) (fun hc=>?_)
      ·
       have hx:=of_decide_eq_true hc
       refine QG<|QB<|QA (QC rfl)<|QA (Qw rfl rfl (by omega))<|QA (QE rfl)<|QF<|QD<|QB<|QA (QC rfl)<|QA (Qw rfl rfl (by omega))<|QA (QE rfl)<|QF<|QD<|QB<|QA (QC rfl)<|QA (QC rfl)<|QA (QC rfl)<|QA (Qw rfl rfl (by omega))<|QA (QC rfl)<|QA (Qy (i:=(i2.k - 1)+i3.i) rfl (congrArg (fun z:Int=>some (Value.int .i64 z)) (by omega)) Qe Qu (by omega))<|QP (vs:=[_]) rfl rfl rfl Qu rfl .here (VO (by first | omega | (simp only [List.length_set];omega)) (((Qf (i3.U') ((i2.k - 1)+i3.i) - (((t89*Qf l55 (i3.i))+i3.br)%1000000000))+1000000000))) ⟨rfl,trivial⟩<|QF<|Qm<|QD<|QB ?_
       refine QA (QC rfl)<|QA (Qw rfl rfl (by omega))<|QA (QE rfl)<|QF ?_
       exact Qo (⟨i3.i+1,((i3.U').set ((i2.k - 1)+i3.i) (((Qf (i3.U') ((i2.k - 1)+i3.i) - (((t89*Qf l55 (i3.i))+i3.br)%1000000000))+1000000000))),((((t89*Qf l55 (i3.i))+i3.br) / 1000000000)+1),by omega,i3.h.step (by omega) (by rw [h9];omega) (by rw [h9];omega) (by rw [h9,← hd3];omega)⟩) (by show l55.length - (i3.i+1)<l55.length - i3.i;omega) ⟨rfl,rfl,rfl,rfl,rfl,rfl,rfl,rfl,rfl,trivial⟩ (List.Sublist.refl _) (fun F h=>⟨h.1,trivial⟩)
      ·
       have hx:=of_decide_eq_false hc
       refine QN<|QD<|QB<|QA (QC rfl)<|QA (QC rfl)<|QA (QC rfl)<|QA (Qw rfl rfl (by omega))<|QA (QC rfl)<|QA (Qy (i:=(i2.k - 1)+i3.i) rfl (congrArg (fun z:Int=>some (Value.int .i64 z)) (by omega)) Qe Qu (by omega))<|QP (vs:=[_]) rfl rfl rfl Qu rfl .here (VO (by first | omega | (simp only [List.length_set];omega)) ((Qf (i3.U') ((i2.k - 1)+i3.i) - (((t89*Qf l55 (i3.i))+i3.br)%1000000000)))) ⟨rfl,trivial⟩<|QF<|Qm<|QD<|QB<|QA (QC rfl)<|QA (Qw rfl rfl (by omega))<|QA (QE rfl)<|QF ?_
       exact Qo (⟨i3.i+1,((i3.U').set ((i2.k - 1)+i3.i) ((Qf (i3.U') ((i2.k - 1)+i3.i) - (((t89*Qf l55 (i3.i))+i3.br)%1000000000)))),(((t89*Qf l55 (i3.i))+i3.br) / 1000000000),by omega,i3.h.step (by omega) (by rw [h9];omega) (by rw [h9];omega) (by rw [h9,← hd3];omega)⟩) (by show l55.length - (i3.i+1)<l55.length - i3.i;omega) ⟨rfl,rfl,rfl,rfl,rfl,rfl,rfl,rfl,rfl,trivial⟩ (List.Sublist.refl _) (fun F h=>⟨h.1,trivial⟩)
     ·
      have hi3:i3.i=m+2:=by have:=of_decide_eq_false hc;omega
      refine Q6 ?_
      repeat (first | refine Qc ?_ | refine QX (by rfl) ?_)
      refine Qd<|QD<|QG ?_
      have hs3:Pc B9 i2.U l55 (i2.k - 1) t89 (m+2) i3.U' i3.br:=by have:=i3.h;rw [hi3] at this;exact this
      have hd3:Qf i3.U' ((i2.k - 1)+(m+2))=Qf i2.U ((i2.k - 1)+(m+2)):=ZY hs3.hi (Nat.le_refl _)
      have hS:=hs3.stop Bq l55l (by omega)
      rw [← hd3] at hS
      have bu4:=i2.du.Qf JG ((i2.k - 1)+(m+2))
      rw [h9,← hd3] at bu4
      have htp:=hS.tp
      have hz1:dv B9 (i2.U.drop ((i2.k - 1)+(m+2)+1))=0:=by rw [show(i2.k - 1)+(m+2)+1=i2.k+(m+2) by omega];exact hz0
      refine QB<|QA (QC rfl)<|QA (QC rfl)<|QA (QC rfl)<|QA (Qw rfl rfl (by omega))<|QA (QC rfl)<|QA (QC rfl)<|QA (QC rfl)<|QA (Qw rfl rfl (by omega))<|QA (Qy (i:=(i2.k - 1)+(m+2)) rfl (congrArg (fun z:Int=>some (Value.int .i64 z)) (by omega)) Qe Qu (by omega))<|QA (YR (c:=(i3.U').map Qz++rest) (T':=3) rfl Qu .here (Zl (by first | omega | (simp only [List.length_set];omega))))<|QA (QC rfl)<|QA (Jx rfl rfl (by omega))<|QA (Qy (i:=(i2.k - 1)+(m+2)) rfl (congrArg (fun z:Int=>some (Value.int .i64 z)) (by omega)) Qe Qu (by omega))<|QP (vs:=[_]) rfl rfl rfl Qu rfl .here (VO (by first | omega | (simp only [List.length_set];omega)) ((Qf (i3.U') ((i2.k - 1)+(m+2)) - i3.br))) ⟨rfl,trivial⟩<|QF<|QD<|QG<|QG<|QB<|QA (QC rfl)<|QA (QC rfl)<|QA (QC rfl)<|QA (Qw rfl rfl (by omega))<|QA (Qy (i:=(i2.k - 1)+(m+2)) rfl (congrArg (fun z:Int=>some (Value.int .i64 z)) (by omega)) Qe Qu (by omega)) ?_
      refine QA (YR (c:=(((i3.U').set ((i2.k - 1)+(m+2)) ((Qf (i3.U') ((i2.k - 1)+(m+2)) - i3.br)))).map Qz++rest) (T':=3) rfl Qu .here (Zl (by first | omega | (simp only [List.length_set];omega))))<|QA (QU rfl rfl rfl)<|QF<|QD ?_
      refine QO rfl (fun hc=>?_) (fun hc=>?_)
      ·
       have hneg:Qf i3.U' ((i2.k - 1)+(m+2)) - i3.br<0:=by have:=of_decide_eq_true hc;rw [htp] at this;exact this
       refine QG<|QB<|QA (QC rfl)<|QA (Jx rfl rfl (by omega))<|QA (QE rfl)<|QF<|QD<|QG<|QB<|QA (QE rfl)<|QF<|QD<|QG<|QG<|QB<|QA (QE rfl)<|QF<|QD<|Qa<|Jz (ι:=gU (i3.U'.set ((i2.k - 1)+(m+2)) (Qf i3.U' ((i2.k - 1)+(m+2)) - i3.br)) l55 (i2.k - 1) (m+2)) [(8,_),(9,_),(10,_),(11,_),(12,_),(13,_),(14,_)] (fun i4=>[(19,.int .i64 (i4.c)),(20,.int .i64 ((i4.i:Nat):Int))]) (fun i4=>[(bu,.cells (i4.U'.map Qz++rest).toArray 3 (0,0)),(bq,.cells (i2.Q.map Qz).toArray 3 (0,0))]) (fun i4 F=>True) (fun i4=>m+2 - i4.i) (⟨0,_,0,Nat.zero_le _,DQ.start hS.dg⟩) ⟨rfl,rfl,rfl,rfl,rfl,rfl,rfl,trivial⟩ ⟨rfl,rfl,trivial⟩ (List.Sublist.refl _) (fun _ _=>trivial) (fun i4=>?_)
       simp only [List.cons_append,List.nil_append]
       have hle4:=i4.le
       have lU4:=i4.h.len
       rw [List.length_set] at lU4
       have c40:=i4.h.c0
       have c41:=i4.h.c1
       refine QG<|QG<|QB<|QA (QC rfl)<|QA (QC rfl)<|QA (QU rfl rfl rfl)<|QF<|QD ?_
       refine QO rfl (fun hc=>?_) (fun hc=>?_)
       ·
        have hi4:i4.i<m+2:=by have:=of_decide_eq_true hc;omega
        have bu5:=i4.h.Qf Bq hi4
        have bv5:=d55.Qf JG i4.i
        rw [h9] at bu5 bv5
        have hd4:=ZY i4.h.hi (Nat.le_refl _)
        refine QN<|QD<|QG<|Qa<|QG<|JQ (List.Sublist.refl _) mixed (by kernel_rfl)<|QM (QC rfl)<|QM (QC rfl)<|QM (QC rfl)<|QM (Qw rfl rfl (by omega))<|QM (Qy (i:=(i2.k - 1)+i4.i) rfl (congrArg (fun z:Int=>some (Value.int .i64 z)) (by omega)) Qe Qu (by omega))<|QM (YR (c:=(i4.U').map Qz++rest) (T':=3) rfl Qu .here (Zl (by first | omega | (simp only [List.length_set];omega))))<|QM (QC rfl)<|QM (QC rfl)<|QM (Jc (n:=(m+2)) (i4.i) (fun F ⟨⟨⟨⟨⟨⟨⟨⟨⟨⟨hA,hB⟩,_⟩,hs52⟩,⟨h55,h55p⟩⟩,⟨h61,h61p⟩⟩,_⟩,_⟩,hg89⟩,_⟩,_⟩=>(h55).1) rfl rfl Qe Qu (by omega))<|QM (Ji (n:=(m+2)) ((i4.i)*1) (fun F ⟨⟨⟨⟨⟨⟨⟨⟨⟨⟨hA,hB⟩,_⟩,hs52⟩,⟨h55,h55p⟩⟩,⟨h61,h61p⟩⟩,_⟩,_⟩,hg89⟩,_⟩,_⟩=>(h55).1) (by omega) rfl Qu (JR (o:=l55) (by omega)))<|QM (Qw rfl rfl (by omega))<|QM (QC rfl)<|QM (Qw rfl rfl (by omega))<|QM (QE rfl)<|Q3<|QD<|QG<|QB<|QA (QC rfl) ?_
        refine QA (QC rfl)<|QA (QC rfl)<|QA (Qw rfl rfl (by omega))<|QA (QC rfl)<|QA (Y9 rfl rfl (by omega) (by omega))<|QA (Qy (i:=(i2.k - 1)+i4.i) rfl (congrArg (fun z:Int=>some (Value.int .i64 z)) (by omega)) Qe Qu (by omega))<|QP (vs:=[_]) rfl rfl rfl Qu rfl .here (VO (by first | omega | (simp only [List.length_set];omega)) ((((Qf (i4.U') ((i2.k - 1)+i4.i)+Qf l55 (i4.i))+i4.c)%1000000000))) ⟨rfl,trivial⟩<|QF<|QD<|QB<|QA (QC rfl)<|QA (V3 rfl rfl (by omega) (by omega) (by omega))<|QA (QE rfl)<|QF<|Qm<|QD<|QB<|QA (QC rfl)<|QA (Qw rfl rfl (by omega))<|QA (QE rfl)<|QF ?_
        exact Qo (⟨i4.i+1,((i4.U').set ((i2.k - 1)+i4.i) ((((Qf (i4.U') ((i2.k - 1)+i4.i)+Qf l55 (i4.i))+i4.c)%1000000000))),(((Qf (i4.U') ((i2.k - 1)+i4.i)+Qf l55 (i4.i))+i4.c) / 1000000000),by omega,i4.h.step hi4 (by rw [List.length_set];omega) (by rw [h9];omega) (by omega) (by rw [h9,← hd4];omega)⟩) (by show m+2 - (i4.i+1)<m+2 - i4.i;omega) ⟨rfl,rfl,rfl,rfl,rfl,rfl,rfl,rfl,rfl,trivial⟩ (List.Sublist.refl _) (fun F h=>⟨h.1,trivial⟩)
       ·
        have hi4:i4.i=m+2:=by have:=of_decide_eq_false hc;omega
        refine Q6 ?_
        repeat (first | refine Qc ?_ | refine QX (by rfl) ?_)
        refine Qd<|QD ?_
        have hA4:DQ B9 (i3.U'.set ((i2.k - 1)+(m+2)) (Qf i3.U' ((i2.k - 1)+(m+2)) - i3.br)) l55 (i2.k - 1) (m+2) (m+2) i4.U' i4.c:=by have:=i4.h;rw [hi4] at this;exact this
        have hd5:Qf i4.U' ((i2.k - 1)+(m+2))=Qf i3.U' ((i2.k - 1)+(m+2)) - i3.br:=by rw [ZY hA4.hi (Nat.le_refl _)];exact htp
        have hS5:Sn B9 i2.U l55 (i2.k - 1) (m+2) t89 (i3.U'.set ((i2.k - 1)+(m+2)) (Qf i3.U' ((i2.k - 1)+(m+2)) - i3.br)) (Qf i4.U' ((i2.k - 1)+(m+2))):=by rw [hd5];exact hS
        obtain ⟨g1,g2,g3,g4,g5⟩:=hA4.yJ Bq hS5 i2.du d55 l55l hz1 (by omega) (by rw [hd5];exact hneg) t2
        have lU4:=i4.h.len
        rw [List.length_set] at lU4
        have b5:Qf i4.U' ((i2.k - 1)+(m+2))=Qf i3.U' ((i2.k - 1)+(m+2)) - i3.br:=hd5
        refine QB<|QA (QC rfl)<|QA (QC rfl)<|QA (QC rfl)<|QA (Qw rfl rfl (by omega))<|QA (QC rfl)<|QA (QC rfl)<|QA (QC rfl)<|QA (Qw rfl rfl (by omega))<|QA (Qy (i:=(i2.k - 1)+(m+2)) rfl (congrArg (fun z:Int=>some (Value.int .i64 z)) (by omega)) Qe Qu (by omega))<|QA (YR (c:=(i4.U').map Qz++rest) (T':=3) rfl Qu .here (Zl (by first | omega | (simp only [List.length_set];omega))))<|QA (QC rfl)<|QA (Qw rfl rfl (by omega))<|QA (Qy (i:=(i2.k - 1)+(m+2)) rfl (congrArg (fun z:Int=>some (Value.int .i64 z)) (by omega)) Qe Qu (by omega))<|QP (vs:=[_]) rfl rfl rfl Qu rfl .here (VO (by first | omega | (simp only [List.length_set];omega)) ((Qf (i4.U') ((i2.k - 1)+(m+2))+i4.c))) ⟨rfl,trivial⟩<|QF<|QD<|QB<|QA (QC rfl)<|QA (QC rfl)<|QA (QC rfl)<|QA (Qy (i:=(i2.k - 1)) rfl (congrArg (fun z:Int=>some (Value.int .i64 z)) (by omega)) Qe Qu (by omega))<|QP (vs:=[_]) rfl rfl rfl Qu rfl (.there .here) (Gh (by first | omega | (simp only [List.length_set];omega)) ((t89 - 1))) ⟨rfl,trivial⟩<|QF<|Qm ?_
        refine QD<|QB<|QA (QC rfl)<|QA (Jx rfl rfl (by omega))<|QA (QE rfl)<|QF ?_
        exact Qo (i2.next hk0 (by omega) (t:=t89 - 1) g4 (by omega) g1 g2 g3 g5) (by show i2.k - 1<i2.k;omega) ⟨rfl,rfl,rfl,rfl,rfl,rfl,trivial⟩ (List.Sublist.refl _) (fun F h=>⟨h.1.1.1.1,trivial⟩)
      ·
       have hneg:0≤Qf i3.U' ((i2.k - 1)+(m+2)) - i3.br:=by have:=of_decide_eq_false hc;rw [htp] at this;omega
       obtain ⟨g1,g2,g3⟩:=hS.yJ Bq (by omega) hneg (by rw [h9];omega) t3
       refine QN<|QD<|QB<|QA (QC rfl)<|QA (QC rfl)<|QA (QC rfl)<|QA (Qy (i:=(i2.k - 1)) rfl (congrArg (fun z:Int=>some (Value.int .i64 z)) (by omega)) Qe Qu (by omega))<|QP (vs:=[_]) rfl rfl rfl Qu rfl (.there .here) (Gh (by first | omega | (simp only [List.length_set];omega)) (t89)) ⟨rfl,trivial⟩<|QF<|Qm<|QD<|QB<|QA (QC rfl)<|QA (Jx rfl rfl (by omega))<|QA (QE rfl)<|QF ?_
       exact Qo (i2.next hk0 (by omega) (t:=t89) t0 t1 g1 g2 g3 hS.len) (by show i2.k - 1<i2.k;omega) ⟨rfl,rfl,rfl,rfl,rfl,rfl,trivial⟩ (List.Sublist.refl _) (fun F h=>⟨h.1.1.1,trivial⟩)
    ·
     have hk0:i2.k=0:=by have:=of_decide_eq_false hc;omega
     refine Q6 ?_
     repeat (first | refine Qc ?_ | refine QX (by rfl) ?_)
     refine Qd<|QD<|QG ?_
     obtain ⟨s1,s2⟩:=i2.stop hk0 db da e55 f2 hb d55 l55l
     have lt40:=Xh (i2.U.take (m+2))
     rw [List.length_take] at lt40
     refine PA (b:=bu) .here<|PA (b:=bq) .here<|JQ (List.Sublist.refl _) mixed (by kernel_rfl)<|QM (QC rfl)<|QM (QC rfl)<|QM (O0 (m+2) rfl rfl rfl Qe Qu (by omega))<|Qb rfl (fun w F hF ⟨⟨⟨⟨⟨⟨⟨⟨⟨hA,hB⟩,_⟩,hs52⟩,⟨h55,h55p⟩⟩,⟨h61,h61p⟩⟩,_⟩,_⟩,hu40⟩,hq40⟩=>WR hF (r:=⟨some ⟨bu,0,none⟩,m+2,cu⟩) ((JP.own hu40 i2.lu hcu).take (by omega)) (by rw [List.length_take];omega)) (fun c196=>QM (QC rfl)<|QM (Jc (n:=1) (0) (fun F ⟨⟨⟨⟨⟨⟨⟨⟨⟨hA,hB⟩,_⟩,hs52⟩,⟨h55,h55p⟩⟩,⟨h61,h61p⟩⟩,_⟩,_⟩,hu40⟩,hq40⟩=>(JF.of (n:=1) (sz:=1) hs52 rfl)) rfl (congrArg (fun z:Int=>some (Value.int .i64 z)) (by omega)) Qe Qu (by omega))<|QM (Ji (n:=1) ((0)*1) (fun F ⟨⟨⟨⟨⟨⟨⟨⟨⟨hA,hB⟩,_⟩,hs52⟩,⟨h55,h55p⟩⟩,⟨h61,h61p⟩⟩,_⟩,_⟩,hu40⟩,hq40⟩=>(JF.of (n:=1) (sz:=1) hs52 rfl)) (by omega) rfl Qu rfl)<|Qb rfl (fun w F hF ⟨⟨⟨⟨⟨⟨⟨⟨⟨⟨hA,hB⟩,_⟩,hs52⟩,⟨h55,h55p⟩⟩,⟨h61,h61p⟩⟩,_⟩,_⟩,hu40⟩,hq40⟩,h196⟩=>EF hF (a:=Q2 (i2.U.take (m+2))) (ra:=⟨some ⟨bu,0,none⟩,(Q2 (i2.U.take (m+2))).length,cu⟩) h196 ((i2.du.take _).Q2) (by omega) (f2) (f3)) (fun c200=>QM (QC rfl)<|QM (QK rfl rfl)<|QM (QK rfl rfl)<|QM (QE rfl)<|QM (QE rfl)<|Q3<|QD<|QG<|QB<|QA (QC rfl)<|QH rfl (fun w F hF ⟨⟨⟨⟨⟨⟨⟨⟨⟨⟨⟨hA,hB⟩,_⟩,hs52⟩,⟨h55,h55p⟩⟩,⟨h61,h61p⟩⟩,_⟩,_⟩,hu40⟩,hq40⟩,h196⟩,h200⟩=>WR hF (r:=⟨some ⟨bq,0,none⟩,a.length+1 - (m+2),a.length+1 - (m+2)⟩) (JP.vZ hq40 i2.lq (Nat.le_refl _)) (by omega)) (fun c204=>QA (QC rfl)<|QA (QE rfl)<|QA (QE rfl) ?_)))
     refine QF<|QD<|QS ?_
     exact JH (((⟨some ⟨bq,0,none⟩,(Q2 i2.Q).length,a.length+1 - (m+2)⟩,Q2 i2.Q),(c200.1.1,c200.1.2)):(Sr×List Int)×(Sr×List Int)) rfl (.tmp rfl (.tmp rfl .nil)) (rfl) (fun F ⟨⟨⟨⟨⟨⟨⟨⟨⟨⟨⟨⟨hA,hB⟩,_⟩,hs52⟩,⟨h55,h55p⟩⟩,⟨h61,h61p⟩⟩,_⟩,_⟩,hu40⟩,hq40⟩,h196⟩,h200⟩,h204⟩=>⟨⟨h204,i2.dq.Q2,Xf _,by show dv B9 (Q2 i2.Q)=_;rw [J7];exact s1⟩,h200.1,h200.2.1,h200.2.2.1,Ow (by omega) (by rw [← s2,← J7];exact h200.2.2.2.2.2.1) h200.2.2.2.1 h200.2.2.2.2.1⟩)
end
section
open Go.RowKit Ig
section
variable {P:Program} {N:Nat} {m:Sl} {S:World→Prop} {ty:TypeId}
def RV (P:Program) (T:TypeId):Bool:=match P.underlying T with
 |some .bool=>true
 |_=>false
theorem xA {T:TypeId} (h:RV P T=true):P.underlying T=some .bool:=by
 unfold RV at h;split at h
 ·assumption
 ·cases h
theorem M1 {T:TypeId} (hT:RV P T=true) (a b:Bool) (w:World):(Op.equal T (.bool a) (.bool b)).run P w = .ok (a==b) w:=by
 have e:∃ n,Op.maxDepth=n+1:=⟨Op.maxDepth - 1,by decide⟩
 obtain ⟨n,e⟩:=e
 unfold Op.equal
 rw [e]
 unfold Op.equalIn
 simp [run_underlying (xA hT)]
theorem zY {T yT:TypeId} {x y:Operand} {a b:Bool} (hT:RV P T=true) (hx:ev m x=some (.bool a)) (hy:ev m y=some (.bool b)):Qt P N m S (.binOp .eql T x y yT) ty (.bool (a==b)):=fun s w _ _ _ _ ha _=>by
 simp only [execOp,ha.ev hx,ha.ev hy,eqGuard,binOp,Sem.run_bind,Sem.run_pure,Result.andThen_ok,M1 hT]
 rfl
theorem zX {T yT:TypeId} {x y:Operand} {a b:Bool} (hT:RV P T=true) (hx:ev m x=some (.bool a)) (hy:ev m y=some (.bool b)):Qt P N m S (.binOp .neq T x y yT) ty (.bool (!(a==b))):=fun s w _ _ _ _ ha _=>by
 simp only [execOp,ha.ev hx,ha.ev hy,eqGuard,binOp,Sem.run_bind,Sem.run_pure,Result.andThen_ok,M1 hT]
 rfl
end
structure Ri where
 neg:Bool
 r:Sr
 l:List Int
@[reducible] def Ri.v (x:Ri):Value:=.agg #[.bool x.neg,.slice x.r.q x.r.n x.r.cap]
def Wu (neg:Bool) (l:List Int):Int:=if neg=true then -dv B9 l else dv B9 l
def YN (F:Gs) (x:Ri) (z:Int):Prop:=JP F x.r x.l∧DG B9 x.l∧NZ x.l∧z=Wu x.neg x.l∧(x.neg=true→0<dv B9 x.l)
theorem YN.le {F F':Gs} {x:Ri} {z:Int} (h:YN F x z) (k:Gs.le F F'):YN F' x z:=⟨h.1.le k,h.2⟩
abbrev Wp (P:Program) (f:FuncId) (args:List Value) (w:World) (F:Gs) (z:Int):Prop:=QT P f args w F Ri.v (fun x F=>YN F x z)
structure Vf (neg:Bool) (l:List Int) (z:Int):Prop where
 dg:DG B9 l
 nz:NZ l
 e:z=Wu neg l
 ng:neg=true→0<dv B9 l
theorem YN.p {F:Gs} {x:Ri} {z:Int} (h:YN F x z):Vf x.neg x.l z:=⟨h.2.1,h.2.2.1,h.2.2.2.1,h.2.2.2.2⟩
theorem Vf.v0 {neg:Bool} {l:List Int} {z:Int} (h:Vf neg l z):0≤dv B9 l:=Qx JG h.dg
theorem Vf.abs {neg:Bool} {l:List Int} {z:Int} (h:Vf neg l z):(z.natAbs:Int)=dv B9 l:=by
 have:=h.v0
 rw [h.e,Wu];split<;>omega
theorem vi {l:List Int} (h:DG B9 l) (z:NZ l):l.length≤sz (dv B9 l):=by
 rcases Nat.eq_zero_or_pos l.length with g | g
 ·omega
 ·have h1:=B0 JG h z (by intro e;rw [e] at g;simp at g)
  have h2:=HK (dv B9 l)
  have h3:=Qx JG h
  rcases Nat.lt_or_ge (sz (dv B9 l)) l.length with q | q
  ·exfalso
   have h4:(2:Int)^(l.length - 1)≤B9^(l.length - 1):=by
    have:∀ n:Nat,(2:Int)^n≤B9^n:=by
     intro n
     induction n with
     |zero=>simp
     |succ n ih =>
      rw [Int.pow_succ,Int.pow_succ]
      exact Int.mul_le_mul ih (by decide) (by decide) (Int.le_of_lt (pow_pos JG n))
    exact this _
   have h5:(2:Int)^sz (dv B9 l)≤2^(l.length - 1):=KQ (by decide) (by omega)
   have h6:((dv B9 l).natAbs:Int)<((2^sz (dv B9 l):Nat):Int):=Int.ofNat_lt.2 h2
   rw [Int.natCast_pow] at h6
   have:((2:Nat):Int)=2:=rfl
   rw [this] at h6
   omega
  ·exact q
theorem Vf.len {neg:Bool} {l:List Int} {z:Int} (h:Vf neg l z):l.length≤sz z:=by
 have:=vi h.dg h.nz
 have e:sz (dv B9 l)=sz z:=by
  rw [← h.abs];unfold sz;simp
 omega
theorem Vf.neg {neg:Bool} {l:List Int} {z:Int} (h:Vf neg l z):neg=decide (z<0):=by
 have h0:=h.v0
 cases neg with
 |true=>have:=h.ng rfl;have e:=h.e;simp only [Wu,if_true] at e;symm;rw [decide_eq_true_eq];omega
 |false=>have e:=h.e;simp only [Wu] at e;symm;rw [decide_eq_false_iff_not];simp at e;omega
theorem Vf.zero {neg:Bool} {l:List Int} {z:Int} (h:Vf neg l z):l=[]↔z=0:=by
 have:=YX Bq h.dg h.nz
 have e:=h.abs
 rw [← this];omega
theorem OL {l:List Int} (h:DG B9 l):(0<(Q2 l).length)↔0<dv B9 l:=by
 have h1:=YX Bq h.Q2 (Xf l)
 rw [J7] at h1
 have h2:=Qx JG h
 rw [← List.length_eq_zero_iff] at h1
 omega
theorem Xy {w:World} {F:Gs} {r:Sr} {l:List Int} {neg:Bool} (hF:Fits F w) (hR:JP F r l) (dg:DG B9 l) (hl:l.length≤1000000000):Wp Tryz.prog 233 [.bool neg,r.v] w F (Wu neg l):=by
 obtain ⟨q,n,c⟩:=r
 have hn:=hR.2.1
 dsimp only [Sr.v] at hn ⊢
 have hlz:=Xh l
 have htp:=OL dg
 have hv0:=Qx JG dg
 refine QT.intro (G:=fun F=>JP F ⟨q,n,c⟩ l) Tryz.func233 rfl (by rfl) rfl rfl hF (fun F' hF'=>hR.le hF')<|QG<|QB<|QZ Xc (fun b4=>QF<|QD<|QG<|QB<|QA (QC rfl)<|QH rfl (fun w F hF hR=>WR hF (r:=⟨q,n,c⟩) hR (hl)) (fun c6=>QA (QE rfl)<|QF<|QD<|QG<|QB<|QA (QC rfl)<|QA (QC rfl) ?_))
 refine Qk (t:=8) rfl (fun hb8=>?_) (fun hb8=>?_)
 ·
  refine QJ rfl rfl<|QA (QC rfl)<|QJ rfl rfl<|QA (Ql rfl Qe)<|QJ rfl rfl<|QA (QU rfl rfl rfl)<|QA (Qi rfl rfl rfl)<|QA (QC rfl)<|QA (Q9 rfl CK Xc (.cons (vs:=[_]) rfl rfl rfl (.here .nil) (.cons (vs:=[_]) rfl rfl rfl (.skip (.here .nil)) .nil)))<|QP (vs:=[_,_]) rfl rfl rfl Qv rfl .here (.here (.here .nil)) ⟨rfl,rfl,trivial⟩<|QF<|QD<|QS ?_
  exact QQ ((⟨decide ((((Q2 l).length:Nat):Int)>0),⟨q,(Q2 l).length,c⟩,Q2 l⟩:Ri)) rfl (.Ja (c:=[_,_]) rfl Qv .here .nil) (rfl) (fun F ⟨hR,h6⟩=>⟨h6,dg.Q2,Xf _,by show Wu neg l=Wu (decide ((((Q2 l).length:Nat):Int)>0)) (Q2 l);rw [Wu,Wu,J7];cases neg<;>simp_all<;>omega,fun hh=>by show 0<dv B9 (Q2 l);rw [J7];simp_all⟩)
 ·
  refine QR rfl rfl rfl<|QR rfl rfl rfl<|QR rfl rfl rfl<|QA (Qh rfl rfl rfl)<|QA (QC rfl)<|QA (Q9 rfl CK Xc (.cons (vs:=[_]) rfl rfl rfl (.here .nil) (.cons (vs:=[_]) rfl rfl rfl (.skip (.here .nil)) .nil)))<|QP (vs:=[_,_]) rfl rfl rfl Qv rfl .here (.here (.here .nil)) ⟨rfl,rfl,trivial⟩<|QF<|QD<|QS ?_
  exact QQ ((⟨false,⟨q,(Q2 l).length,c⟩,Q2 l⟩:Ri)) rfl (.Ja (c:=[_,_]) rfl Qv .here .nil) (rfl) (fun F ⟨hR,h6⟩=>⟨h6,dg.Q2,Xf _,by show Wu neg l=Wu false (Q2 l);rw [Wu,Wu,J7];cases neg<;>simp_all<;>omega,fun hh=>by show 0<dv B9 (Q2 l);rw [J7];simp_all⟩)
theorem Ib:RV Tryz.prog 4=true:=by kernel_rfl
theorem j8 {x y:Int} (h:ZU x y≥0):y≤x:=by
 unfold ZU at h;split at h
 ·omega
 ·split at h<;>omega
theorem qF {x y:Int} (h:¬ ZU x y≥0):x≤y:=by
 unfold ZU at h;split at h
 ·omega
 ·split at h<;>omega
theorem Lf {a b:Int} (hb:0<b):(-a) / b=if 0<a%b then -(a / b+1) else -(a / b):=by
 have h1:=Int.emod_add_mul_ediv a b
 have h2:=Int.emod_nonneg a (Int.ne_of_gt hb)
 have h3:=Int.emod_lt_of_pos a hb
 split
 ·refine Xz hb ?_ ?_
  ·rw [Int.neg_mul,Int.add_mul,Int.one_mul,Int.mul_comm (a / b)];omega
  ·rw [Int.add_mul,Int.one_mul,Int.neg_mul,Int.add_mul,Int.one_mul,Int.mul_comm (a / b)];omega
 ·refine Xz hb ?_ ?_
  ·rw [Int.neg_mul,Int.mul_comm (a / b)];omega
  ·rw [Int.add_mul,Int.one_mul,Int.neg_mul,Int.mul_comm (a / b)];omega
theorem TX {w:World} {F:Gs} {x:Ri} {zx:Int} (hF:Fits F w) (hx:YN F x zx) (hz:sz zx≤1000000):Wp Tryz.prog 179 [x.v] w F (-zx):=by
 obtain ⟨xn,⟨xq,xm,xc⟩,xl⟩:=x
 have px:=hx.p
 have lx:=px.len
 have kx:=hx.1.2.1
 have vx:=px.v0
 dsimp only at px lx kx vx
 dsimp only [Ri.v]
 have eqn : -zx=Wu (!xn) xl:=by rw [px.e];cases xn<;>simp [Wu]
 refine QT.intro (G:=fun F=>YN F ⟨xn,⟨xq,xm,xc⟩,xl⟩ zx) Tryz.func179 rfl (by rfl) rfl rfl hF (fun F' hF'=>hx.le hF')<|QG<|QB<|Q5 rfl (vs:=[_,_]) rfl (fun b1=>QZ Xc (fun b2=>QF<|QD<|QG<|QB<|QA (QI rfl Zd Yk)<|QA (Qn rfl Yk (.there .here) (.here .nil))<|QA (ZO rfl)<|QA (QI rfl XK Qs)<|QA (Qn rfl Qs (.there .here) (.skip (.here .nil)))<|QH rfl (fun w F hF hx=>Xy hF (r:=⟨xq,xm,xc⟩) (l:=xl) (neg:=!xn) hx.1 (px.dg) (by omega)) (fun c8=>QP (vs:=[_,_]) rfl rfl rfl Qv rfl .here (.here (.here .nil)) ⟨rfl,rfl,trivial⟩<|QF<|QD<|QS ?_)))
 exact QQ (c8) rfl (.Ja (c:=[_,_]) rfl Qv .here .nil) (rfl) (fun F ⟨hx,h8⟩=>(by rw [eqn];exact h8))
theorem YL {w:World} {F:Gs} {x y:Ri} {zx zy:Int} (hF:Fits F w) (hx:YN F x zx) (hy:YN F y zy) (hzx:sz zx≤1000000) (hzy:sz zy≤1000000):Wp Tryz.prog 178 [x.v,y.v] w F (zx*zy):=by
 obtain ⟨xn,⟨xq,xm,xc⟩,xl⟩:=x
 have px:=hx.p
 have lx:=px.len
 have kx:=hx.1.2.1
 have vx:=px.v0
 dsimp only at px lx kx vx
 obtain ⟨yn,⟨yq,ym,yc⟩,yl⟩:=y
 have py:=hy.p
 have ly:=py.len
 have ky:=hy.1.2.1
 have vy:=py.v0
 dsimp only at py ly ky vy
 dsimp only [Ri.v]
 refine QT.intro (G:=fun F=>YN F ⟨xn,⟨xq,xm,xc⟩,xl⟩ zx∧YN F ⟨yn,⟨yq,ym,yc⟩,yl⟩ zy) Tryz.func178 rfl (by rfl) rfl rfl hF (fun F' hF'=>⟨hx.le hF',hy.le hF'⟩)<|QG<|QB<|Q5 rfl (vs:=[_,_]) rfl (fun b2=>Q5 rfl (vs:=[_,_]) rfl (fun b3=>QZ Xc (fun b4=>QF<|QD<|QG<|JQ (.cons _ (.cons_cons _ (.cons_cons _ .slnil))) mixed (by kernel_rfl)<|QM (QI rfl Zd Yk)<|QM (Qn rfl Yk (.there .here) (.here .nil))<|QM (QI rfl Zd Yk)<|QM (Qn rfl Yk .here (.here .nil))<|QM (zX Ib rfl rfl)<|QM (QI rfl XK Qs)<|QM (Qn rfl Qs (.there .here) (.skip (.here .nil)))<|QM (QI rfl XK Qs)<|QM (Qn rfl Qs .here (.skip (.here .nil))) ?_)))
 refine Qb rfl (fun w F hF ⟨hx,hy⟩=>WS hF (a:=xl) (b:=yl) (ra:=⟨xq,xm,xc⟩) (rb:=⟨yq,ym,yc⟩) hx.1 (hy.1) (px.dg) (py.dg) (by omega) (by first | omega | (simp;done) | (simp;omega))) (fun c14=>?_);rcases c14 with ⟨v14,l14⟩;dsimp only
 refine Gx _ (fun w F hF ⟨⟨hx,hy⟩,⟨h14,h14p⟩⟩=>And.intro h14.2 h14p) (fun p14=>?_)
 have eqn:zx*zy=Wu (!(xn==yn)) l14:=by
  have e14:=p14.2.2.1
  rw [px.e,py.e];unfold Wu;rw [e14];cases xn<;>cases yn<;>simp [Int.mul_neg,Int.neg_mul]
 have m14:=p14.2.2.2.2
 refine Qb rfl (fun w F hF ⟨⟨hx,hy⟩,⟨h14,h14p⟩⟩=>Xy hF (r:=v14) (l:=l14) (neg:=!(xn==yn)) h14 (p14.2.1) (by omega)) (fun c15=>JY (vs:=[_,_]) rfl rfl rfl Qv rfl .here (.cons_cons _ (.cons_cons _ .slnil)) (fun _ h=>h.1.1) (.here (.here .nil)) ⟨rfl,rfl,trivial⟩<|Q3<|QD<|QS ?_)
 exact QQ (c15) rfl (.Ja (c:=[_,_]) rfl Qv .here .nil) (rfl) (fun F ⟨⟨⟨hx,hy⟩,⟨h14,h14p⟩⟩,h15⟩=>(by rw [eqn];exact h15))
theorem Fz {w:World} {F:Gs} {x y:Ri} {zx zy:Int} (hF:Fits F w) (hx:YN F x zx) (hy:YN F y zy) (hzx:sz zx≤1000000) (hzy:sz zy≤1000000):Wp Tryz.prog 177 [x.v,y.v] w F (zx+zy):=by
 obtain ⟨xn,⟨xq,xm,xc⟩,xl⟩:=x
 have px:=hx.p
 have lx:=px.len
 have kx:=hx.1.2.1
 have vx:=px.v0
 dsimp only at px lx kx vx
 obtain ⟨yn,⟨yq,ym,yc⟩,yl⟩:=y
 have py:=hy.p
 have ly:=py.len
 have ky:=hy.1.2.1
 have vy:=py.v0
 dsimp only at py ly ky vy
 dsimp only [Ri.v]
 refine QT.intro (G:=fun F=>YN F ⟨xn,⟨xq,xm,xc⟩,xl⟩ zx∧YN F ⟨yn,⟨yq,ym,yc⟩,yl⟩ zy) Tryz.func177 rfl (by rfl) rfl rfl hF (fun F' hF'=>⟨hx.le hF',hy.le hF'⟩)<|QG<|QB<|Q5 rfl (vs:=[_,_]) rfl (fun b2=>Q5 rfl (vs:=[_,_]) rfl (fun b3=>QZ Xc (fun b4=>QF<|QD<|QG<|QG<|QB<|QA (QI rfl Zd Yk)<|QA (Qn rfl Yk (.there (.there .here)) (.here .nil))<|QA (QI rfl Zd Yk)<|QA (Qn rfl Yk (.there .here) (.here .nil))<|QA (zY Ib rfl rfl)<|QF<|QD ?_)))
 refine QO rfl (fun hc=>?_) (fun hc=>?_)
 ·
  have hne:xn=yn:=by simpa using hc
  refine QG<|JQ (.cons _ (.cons_cons _ (.cons_cons _ .slnil))) mixed (by kernel_rfl)<|QM (QI rfl Zd Yk)<|QM (Qn rfl Yk (.there .here) (.here .nil))<|QM (QI rfl XK Qs)<|QM (Qn rfl Qs (.there .here) (.skip (.here .nil)))<|QM (QI rfl XK Qs)<|QM (Qn rfl Qs .here (.skip (.here .nil))) ?_
  refine Qb rfl (fun w F hF ⟨hx,hy⟩=>BY hF (a:=xl) (b:=yl) (ra:=⟨xq,xm,xc⟩) (rb:=⟨yq,ym,yc⟩) hx.1 (hy.1) (px.dg) (py.dg) (by omega) (by first | omega | (simp;done) | (simp;omega))) (fun c16=>?_);rcases c16 with ⟨v16,l16⟩;dsimp only
  refine Gx _ (fun w F hF ⟨⟨hx,hy⟩,⟨h16,h16p⟩⟩=>And.intro h16.2 h16p) (fun p16=>?_)
  have eqn:zx+zy=Wu xn l16:=by
   have e16:=p16.2.2.1
   rw [px.e,py.e,hne];unfold Wu;rw [e16];cases yn<;>simp<;>omega
  have m16:=p16.2.2.2
  refine Qb rfl (fun w F hF ⟨⟨hx,hy⟩,⟨h16,h16p⟩⟩=>Xy hF (r:=v16) (l:=l16) (neg:=xn) h16 (p16.2.1) (by omega)) (fun c17=>JY (vs:=[_,_]) rfl rfl rfl Qv rfl .here (.cons_cons _ (.cons_cons _ .slnil)) (fun _ h=>h.1.1) (.here (.here .nil)) ⟨rfl,rfl,trivial⟩<|Q3<|QD<|QS ?_)
  exact QQ (c17) rfl (.Ja (c:=[_,_]) rfl Qv .here .nil) (rfl) (fun F ⟨⟨⟨hx,hy⟩,⟨h16,h16p⟩⟩,h17⟩=>(by rw [eqn];exact h17))
 ·
  have hne:xn=!yn:=by cases xn<;>cases yn<;>simp_all
  refine QN<|QD<|QG<|QG<|QB<|QA (QI rfl XK Qs)<|QA (Qn rfl Qs (.there (.there .here)) (.skip (.here .nil)))<|QA (QI rfl XK Qs)<|QA (Qn rfl Qs (.there .here) (.skip (.here .nil)))<|QH rfl (fun w F hF ⟨hx,hy⟩=>WA hF (a:=xl) (b:=yl) (ra:=⟨xq,xm,xc⟩) (rb:=⟨yq,ym,yc⟩) hx.1 (hy.1) (px.dg) (py.dg) (px.nz) (py.nz) (by omega) (by omega)) (fun _=>QA (QU rfl rfl rfl)<|QF<|QD ?_)
  refine QO rfl (fun hc=>?_) (fun hc=>?_)
  ·
   have hle:dv B9 yl≤dv B9 xl:=j8 (of_decide_eq_true hc)
   have hll:=KT py.dg px.dg py.nz hle
   refine QG<|JQ (.cons _ (.cons_cons _ (.cons_cons _ .slnil))) mixed (by kernel_rfl)<|QM (QI rfl Zd Yk)<|QM (Qn rfl Yk (.there .here) (.here .nil))<|QM (QI rfl XK Qs)<|QM (Qn rfl Qs (.there .here) (.skip (.here .nil)))<|QM (QI rfl XK Qs)<|QM (Qn rfl Qs .here (.skip (.here .nil))) ?_
   refine Qb rfl (fun w F hF ⟨⟨hx,hy⟩,_⟩=>BU hF (a:=xl) (b:=yl) (ra:=⟨xq,xm,xc⟩) (rb:=⟨yq,ym,yc⟩) hx.1 (hy.1) (px.dg) (py.dg) (by omega) (by omega) (hle)) (fun c30=>?_);rcases c30 with ⟨v30,l30⟩;dsimp only
   refine Gx _ (fun w F hF ⟨⟨⟨hx,hy⟩,_⟩,⟨h30,h30p⟩⟩=>And.intro h30.2 h30p) (fun p30=>?_)
   have eqn:zx+zy=Wu xn l30:=by
    have e30:=p30.2.2.1
    rw [px.e,py.e,hne];unfold Wu;rw [e30];cases yn<;>simp<;>omega
   have m30:=p30.2.2.2
   refine Qb rfl (fun w F hF ⟨⟨⟨hx,hy⟩,_⟩,⟨h30,h30p⟩⟩=>Xy hF (r:=v30) (l:=l30) (neg:=xn) h30 (p30.2.1) (by omega)) (fun c31=>JY (vs:=[_,_]) rfl rfl rfl Qv rfl .here (.cons_cons _ (.cons_cons _ .slnil)) (fun _ h=>h.1.1) (.here (.here .nil)) ⟨rfl,rfl,trivial⟩<|Q3<|QD<|QS ?_)
   exact QQ (c31) rfl (.Ja (c:=[_,_]) rfl Qv .here .nil) (rfl) (fun F ⟨⟨⟨⟨hx,hy⟩,_⟩,⟨h30,h30p⟩⟩,h31⟩=>(by rw [eqn];exact h31))
  ·
   have hle:dv B9 xl≤dv B9 yl:=qF (of_decide_eq_false hc)
   have hll:=KT px.dg py.dg px.nz hle
   refine QN<|QD<|QG<|JQ (.cons _ (.cons_cons _ (.cons_cons _ .slnil))) mixed (by kernel_rfl)<|QM (QI rfl Zd Yk)<|QM (Qn rfl Yk .here (.here .nil))<|QM (QI rfl XK Qs)<|QM (Qn rfl Qs .here (.skip (.here .nil)))<|QM (QI rfl XK Qs)<|QM (Qn rfl Qs (.there .here) (.skip (.here .nil))) ?_
   refine Qb rfl (fun w F hF ⟨⟨hx,hy⟩,_⟩=>BU hF (a:=yl) (b:=xl) (ra:=⟨yq,ym,yc⟩) (rb:=⟨xq,xm,xc⟩) hy.1 (hx.1) (py.dg) (px.dg) (by omega) (by omega) (hle)) (fun c38=>?_);rcases c38 with ⟨v38,l38⟩;dsimp only
   refine Gx _ (fun w F hF ⟨⟨⟨hx,hy⟩,_⟩,⟨h38,h38p⟩⟩=>And.intro h38.2 h38p) (fun p38=>?_)
   have eqn:zx+zy=Wu yn l38:=by
    have e38:=p38.2.2.1
    rw [px.e,py.e,hne];unfold Wu;rw [e38];cases yn<;>simp<;>omega
   have m38:=p38.2.2.2
   refine Qb rfl (fun w F hF ⟨⟨⟨hx,hy⟩,_⟩,⟨h38,h38p⟩⟩=>Xy hF (r:=v38) (l:=l38) (neg:=yn) h38 (p38.2.1) (by omega)) (fun c39=>JY (vs:=[_,_]) rfl rfl rfl Qv rfl .here (.cons_cons _ (.cons_cons _ .slnil)) (fun _ h=>h.1.1) (.here (.here .nil)) ⟨rfl,rfl,trivial⟩<|Q3<|QD<|QS ?_)
   exact QQ (c39) rfl (.Ja (c:=[_,_]) rfl Qv .here .nil) (rfl) (fun F ⟨⟨⟨⟨hx,hy⟩,_⟩,⟨h38,h38p⟩⟩,h39⟩=>(by rw [eqn];exact h39))
end
section
open Go.RowKit Ig
theorem TY {w:World} {F:Gs} {x y:Ri} {zx zy:Int} (hF:Fits F w) (hx:YN F x zx) (hy:YN F y zy) (hp:0<zy) (hzx:sz zx≤1000000) (hzy:sz zy≤1000000):Wp Tryz.prog 193 [x.v,y.v] w F (zx / zy):=by
 obtain ⟨xn,⟨xq,xm,xc⟩,xl⟩:=x
 have px:=hx.p
 have lx:=px.len
 have kx:=hx.1.2.1
 have vx:=px.v0
 dsimp only at px lx kx vx
 obtain ⟨yn,⟨yq,ym,yc⟩,yl⟩:=y
 have py:=hy.p
 have ly:=py.len
 have ky:=hy.1.2.1
 have vy:=py.v0
 dsimp only at py ly ky vy
 dsimp only [Ri.v]
 have hyv:dv B9 yl=zy:=by have:=py.abs;omega
 have hd0:0<dv B9 yl:=by omega
 refine QT.intro (G:=fun F=>YN F ⟨xn,⟨xq,xm,xc⟩,xl⟩ zx∧YN F ⟨yn,⟨yq,ym,yc⟩,yl⟩ zy) Tryz.func193 rfl (by rfl) rfl rfl hF (fun F' hF'=>⟨hx.le hF',hy.le hF'⟩)<|QG<|QB<|Q5 rfl (vs:=[_,_]) rfl (fun b2=>Q5 rfl (vs:=[_,_]) rfl (fun b3=>QZ Xc (fun b4=>QF<|QD<|QG<|QB<|QA (QI rfl XK Qs)<|QA (Qn rfl Qs (.there (.there .here)) (.skip (.here .nil)))<|QA (QI rfl XK Qs)<|QA (Qn rfl Qs (.there .here) (.skip (.here .nil)))<|QH rfl (fun w F hF ⟨hx,hy⟩=>Kw hF (a:=xl) (b:=yl) (ra:=⟨xq,xm,xc⟩) (rb:=⟨yq,ym,yc⟩) hx.1 (hy.1) (px.dg) (py.dg) (px.nz) (py.nz) (hd0) (by omega) (by omega)) (fun c12=>QA (QC rfl)<|QA (QK rfl rfl)<|QA (QK rfl rfl)<|QA (QE rfl)<|QA (QE rfl)<|QF<|QD<|QG<|QG<|Xl _ (fun w F hF h=>And.intro h.2.1.2 (And.intro h.2.2.2 (And.intro h.2.1.1.2.1 h.2.2.1.2.1))) (fun p12=>?_)))))
 obtain ⟨p12,q12,n12,o12⟩:=p12
 have lq:c12.1.2.length≤xl.length:=KT p12.1 px.dg p12.2.1 (by rw [p12.2.2];exact Int.ediv_le_self _ vx)
 have hr0:(0<c12.2.1.n)↔0<dv B9 xl%dv B9 yl:=by
  have h1:=YX Bq q12.1 q12.2.1
  have h2:=Qx JG q12.1
  rw [q12.2.2] at h1 h2
  rw [← List.length_eq_zero_iff] at h1
  omega
 have hf:=Lf (a:=dv B9 xl) hd0
 refine QB<|QA (QI rfl Zd Yk)<|QA (Qn rfl Yk (.there (.there .here)) (.here .nil))<|QA (QC rfl) ?_
 refine Qk (t:=17) rfl (fun hb17=>?_) (fun hb17=>?_)
 ·
  refine QJ rfl rfl<|QA (QC rfl)<|QJ rfl rfl<|QA (Ql rfl Qe)<|QJ rfl rfl<|QA (QU rfl rfl rfl)<|QA (Qi rfl rfl rfl)<|QF<|QD ?_
  refine QO rfl (fun hc=>?_) (fun hc=>?_)
  ·
   refine QB<|QA (QC rfl)<|QV rfl (Q8 Qe) Qu Vi rfl rfl (fun b23=>?_)
   refine QH rfl (fun w F hF ⟨⟨⟨hx,hy⟩,h12⟩,hs23⟩=>BY hF (a:=c12.1.2) (ra:=c12.1.1) (rb:=⟨some ⟨b23,0,none⟩,1,1⟩) h12.1.1 (JP.one hs23) (p12.1) (DG.cons (by decide) (by decide) (DG.nil _)) (by omega) (by first | omega | (simp;done) | (simp;omega))) (fun c24=>?_);rcases c24 with ⟨v24,l24⟩;dsimp only
   refine JK _ (fun w F hF ⟨⟨⟨⟨hx,hy⟩,h12⟩,hs23⟩,⟨h24,h24p⟩⟩=>And.intro h24.2 h24p) (fun p24=>QA (QE rfl)<|QF<|QD<|QG<|QB<|QA (QI rfl Zd Yk)<|QA (Qn rfl Yk (.there (.there .here)) (.here .nil))<|QA (QC rfl) ?_)
   have m24:=p24.2.2.2
   simp only [List.length_singleton] at m24
   have eqn:zx / zy=Wu xn l24:=by
    have e24:=p24.2.2.1
    rw [SZ,p12.2.2] at e24
    rw [px.e,hb17,← hyv];unfold Wu;simp only [if_true]
    rw [hf,if_pos (by have:=of_decide_eq_true hc;omega),e24]
   refine QH rfl (fun w F hF ⟨⟨⟨⟨hx,hy⟩,h12⟩,hs23⟩,⟨h24,h24p⟩⟩=>Xy hF (r:=v24) (l:=l24) (neg:=xn) h24 (p24.2.1) (by omega)) (fun c28=>QP (vs:=[_,_]) rfl rfl rfl Qv rfl .here (.here (.here .nil)) ⟨rfl,rfl,trivial⟩<|QF<|QD<|QS ?_)
   exact QQ (c28) rfl (.Ja (c:=[_,_]) rfl Qv .here .nil) (rfl) (fun F ⟨⟨⟨⟨⟨hx,hy⟩,h12⟩,hs23⟩,⟨h24,h24p⟩⟩,h28⟩=>(by rw [eqn];exact h28))
  ·
   refine QN<|QD<|QG<|QB<|QA (QI rfl Zd Yk)<|QA (Qn rfl Yk (.there (.there .here)) (.here .nil))<|QA (QC rfl) ?_
   have eqn:zx / zy=Wu xn c12.1.2:=by
    rw [px.e,hb17,← hyv];unfold Wu;simp only [if_true]
    rw [hf,if_neg (by have:=of_decide_eq_false hc;omega),p12.2.2]
   refine QH rfl (fun w F hF ⟨⟨hx,hy⟩,h12⟩=>Xy hF (r:=c12.1.1) (l:=c12.1.2) (neg:=xn) h12.1.1 (p12.1) (by omega)) (fun c28=>QP (vs:=[_,_]) rfl rfl rfl Qv rfl .here (.here (.here .nil)) ⟨rfl,rfl,trivial⟩<|QF<|QD<|QS ?_)
   exact QQ (c28) rfl (.Ja (c:=[_,_]) rfl Qv .here .nil) (rfl) (fun F ⟨⟨⟨hx,hy⟩,h12⟩,h28⟩=>(by rw [eqn];exact h28))
 ·
  refine QR rfl rfl rfl<|QR rfl rfl rfl<|QR rfl rfl rfl<|QA (Qh rfl rfl rfl)<|QF<|QD<|Zw rfl<|QN<|QD<|QG<|QB<|QA (QI rfl Zd Yk)<|QA (Qn rfl Yk (.there (.there .here)) (.here .nil))<|QA (QC rfl) ?_
  have eqn:zx / zy=Wu xn c12.1.2:=by
   rw [px.e,hb17,← hyv];unfold Wu;simp only [Bool.false_eq_true,if_false]
   rw [p12.2.2]
  refine QH rfl (fun w F hF ⟨⟨hx,hy⟩,h12⟩=>Xy hF (r:=c12.1.1) (l:=c12.1.2) (neg:=xn) h12.1.1 (p12.1) (by omega)) (fun c28=>QP (vs:=[_,_]) rfl rfl rfl Qv rfl .here (.here (.here .nil)) ⟨rfl,rfl,trivial⟩<|QF<|QD<|QS ?_)
  exact QQ (c28) rfl (.Ja (c:=[_,_]) rfl Qv .here .nil) (rfl) (fun F ⟨⟨⟨hx,hy⟩,h12⟩,h28⟩=>(by rw [eqn];exact h28))
structure gT (A B:Int) where
 ra:Sr
 rb:Sr
 a:List Int
 b:List Int
 da:DG B9 a
 db:DG B9 b
 za:NZ a
 zb:NZ b
 la:a.length≤10000000
 lb:b.length≤10000000
 nb:b.length=rb.n
 h:Int.gcd (dv B9 a) (dv B9 b)=Int.gcd A B
theorem Lc (x y:Int):Int.gcd y (x%y)=Int.gcd x y:=by
 rw [Int.gcd_comm y,Int.emod_def]
 first | rw [Int.gcd_sub_mul_left_left] | rw [Int.gcd_sub_mul_right_left] | rw [Int.gcd_sub_mul_left] | simp
theorem Pv {w:World} {F:Gs} {ra rb:Sr} {a b:List Int} (hF:Fits F w) (hA:JP F ra a) (hB:JP F rb b) (da:DG B9 a) (db:DG B9 b) (za:NZ a) (zb:NZ b) (la:a.length≤10000000) (lb:b.length≤10000000) :
  QT Tryz.prog 120 [ra.v,rb.v] w F (fun(c:Sr×List Int)=>.slice c.1.q c.1.n c.1.cap) (fun c F=>JP F c.1 c.2∧DG B9 c.2∧NZ c.2∧dv B9 c.2=(Int.gcd (dv B9 a) (dv B9 b):Int)):=by
 refine QT.intro (G:=fun F=>JP F ra a∧JP F rb b) Tryz.func120 rfl (by rfl) rfl rfl hF (fun F' hF'=>⟨hA.le hF',hB.le hF'⟩)<|QG<|QB<|QA (QE rfl)<|QF<|QD<|QG<|Qa<|Jz (ι:=gT (dv B9 a) (dv B9 b)) [] (fun i=>[(0,.slice i.ra.q i.ra.n i.ra.cap),(1,.slice i.rb.q i.rb.n i.rb.cap)]) (fun i=>[]) (fun i F=>JP F i.ra i.a∧JP F i.rb i.b) (fun i=>(dv B9 i.b).toNat) (⟨ra,rb,a,b,da,db,za,zb,la,lb,hB.2.1,rfl⟩) trivial ⟨rfl,rfl,trivial⟩ (List.Sublist.refl _) (fun F h=>h) (fun i=>?_)
 simp only [List.cons_append,List.nil_append]
 have hla:=i.la
 have hlb:=i.lb
 have hnb:=i.nb
 refine QG<|QG<|QB<|QA (QC rfl)<|QA (Ql rfl Qe)<|QA (QU rfl rfl rfl)<|QF<|QD ?_
 refine QO rfl (fun hc=>?_) (fun hc=>?_)
 ·
  have hpos:0<dv B9 i.b:=by
   have h1:=YX Bq i.db i.zb
   have h2:=Qx JG i.db
   rw [← List.length_eq_zero_iff] at h1
   have:=of_decide_eq_true hc
   omega
  have hm0:=Int.emod_nonneg (dv B9 i.a) (Int.ne_of_gt hpos)
  have hm1:=Int.emod_lt_of_pos (dv B9 i.a) hpos
  refine QN<|QD<|Qa<|QG<|QB<|QA (QC rfl)<|QA (QC rfl)<|QH rfl (fun w F hF ⟨⟨hA,hB⟩,⟨hR1,hR2⟩⟩=>Kw hF (a:=i.a) (b:=i.b) (ra:=i.ra) (rb:=i.rb) hR1 (hR2) (i.da) (i.db) (i.za) (i.zb) (hpos) (by omega) (by omega)) (fun c13=>QA (QC rfl)<|QA (QK rfl rfl)<|QA (QK rfl rfl)<|QA (QE rfl)<|QA (QE rfl)<|QF<|QD<|Xl _ (fun w F hF h=>And.intro h.2.2.2 h.2.2.1.2.1) (fun q13=>?_))
  obtain ⟨q13,n13⟩:=q13
  refine QB<|QA (QC rfl)<|QA (QC rfl)<|QA (QE rfl)<|QA (QE rfl)<|QF<|Qm ?_
  exact Qo (⟨i.rb,c13.2.1,i.b,c13.2.2,i.db,q13.1,i.zb,q13.2.1,i.lb,by have:=KT q13.1 i.db q13.2.1 (by rw [q13.2.2];omega);omega,n13,by rw [q13.2.2,Lc];exact i.h⟩) (by show(dv B9 c13.2.2).toNat<(dv B9 i.b).toNat;rw [q13.2.2];omega) ⟨rfl,rfl,trivial⟩ (List.Sublist.refl _) (fun F ⟨⟨⟨hA,hB⟩,⟨hR1,hR2⟩⟩,h13⟩=>⟨⟨hA,hB⟩,⟨hR2,h13.2.1⟩⟩)
 ·
  have hz:i.b=[]:=by
   have:=of_decide_eq_false hc
   exact List.eq_nil_of_length_eq_zero (by omega)
  refine Q6 ?_
  repeat (first | refine Qc ?_ | refine QX (by rfl) ?_)
  refine Qd<|QD<|QG<|QB<|QA (QC rfl)<|QA (QE rfl)<|QF<|QD<|QS ?_
  exact QQ ((i.ra,i.a):Sr×List Int) rfl (.tmp rfl .nil) (rfl) (fun F ⟨⟨hA,hB⟩,⟨hR1,hR2⟩⟩=>⟨hR1,i.da,i.za,by have e:=i.h;rw [hz,Sa,Int.gcd_zero_right] at e;have:=Qx JG i.da;show dv B9 i.a=_;omega⟩)
end
section
open Go.RowKit Ig
section
variable {P:Program} {N:Nat} {m:Sl} {S:World→Prop} {ty:TypeId}
theorem O2 {T yT:TypeId} {x y:Operand} {a b:Int} (hx:ev m x=some (.int .i64 a)) (hy:ev m y=some (.int .i64 b)) (h:1<b) (h0 : -9223372036854775808≤a) (h1:a≤9223372036854775807):Qt P N m S (.binOp .quo T x y yT) ty (.int .i64 (a.tdiv b)):=by
 have:=F9 (P:=P) (N:=N) (m:=m) (S:=S) (ty:=ty) (T:=T) (yT:=yT) hx hy (by omega)
 have e:=Int.natAbs_tdiv a b
 have e2:a.natAbs.div b.natAbs≤a.natAbs:=Nat.div_le_self _ _
 have e3:a.natAbs.div b.natAbs≤a.natAbs / 2:=Nat.div_le_div_left (by omega) (by decide)
 rw [IntWalk.i64_in _ (by omega)] at this;exact this
end
def Ro (neg:Bool) (m:Nat):Int:=if neg=true then -(m:Int) else(m:Int)
theorem qn (neg:Bool) (m:Nat):(Ro neg m).tmod 1000000000=Ro neg (m%1000000000):=by
 unfold Ro;split
 ·rw [Int.neg_tmod];exact congrArg Neg.neg (Int.ofNat_tmod m 1000000000).symm
 ·exact(Int.ofNat_tmod m 1000000000).symm
theorem Fw (neg:Bool) (m:Nat):(Ro neg m).tdiv 1000000000=Ro neg (m / 1000000000):=by
 unfold Ro;split
 ·rw [Int.neg_tdiv];exact congrArg Neg.neg (Int.ofNat_tdiv m 1000000000).symm
 ·exact(Int.ofNat_tdiv m 1000000000).symm
theorem Oe (n:Int):n=Ro (decide (n<0)) n.natAbs:=by
 unfold Ro;by_cases h:n<0
 ·simp [h];omega
 ·simp [h];omega
theorem DZ (neg:Bool) (m:Nat):Ro neg m=m∨Ro neg m = -(m:Int):=by
 unfold Ro;split
 ·exact .inr rfl
 ·exact .inl rfl
structure vz (M:Nat) where
 m:Nat
 out:List Int
 v:Value
 ob:List (Nat×Obj)
 le:m≤M
 l3:out.length≤3
 dg:DG B9 out
 h:dv B9 out+B9^out.length*(m:Int)=M
 hr:Q4 3 1 v out.length (out.map Qz) ob
theorem vz.two {M:Nat} (i:vz M) (hM:M≤9223372036854775808) (h0:0<i.m):i.out.length≤2:=by
 rcases Nat.lt_or_ge 2 i.out.length with g | g
 ·exfalso
  have e:i.out.length=3:=by have:=i.l3;omega
  have h:=i.h
  have h1:=Qx JG i.dg
  rw [e] at h
  have h2:B9^3*1≤B9^3*(i.m:Int):=Int.mul_le_mul_of_nonneg_left (by omega) (by decide)
  have h3:B9^3=1000000000000000000000000000:=by decide
  rw [h3] at h2 h
  omega
 ·exact g
theorem Fm {l:List Int} {m M:Nat} (h:dv B9 l+B9^l.length*(m:Int)=M):dv B9 (l++[((m%1000000000:Nat):Int)])+B9^(l++[((m%1000000000:Nat):Int)]).length*((m / 1000000000:Nat):Int)=M:=by
 rw [XV,List.length_append,List.length_singleton,Int.pow_succ,Int.mul_assoc,Int.add_assoc,← Int.mul_add,← h]
 have e:((m%1000000000:Nat):Int)+B9*((m / 1000000000:Nat):Int)=m:=by
  have h9:B9=1000000000:=rfl
  rw [h9];omega
 rw [e]
theorem Ge {w:World} {F:Gs} {n:Int} (hF:Fits F w) (hn : -9223372036854775808≤n∧n≤9223372036854775807):Wp Tryz.prog 176 [.int .i64 n] w F n:=by
 refine QT.intro (G:=fun F=>True) Tryz.func176 rfl (by rfl) rfl rfl hF (fun F' hF'=>trivial)<|QG<|QB<|QZ Xc (fun b2=>QF<|QD<|QG<|QB<|QA (QE rfl)<|QF<|QD<|QG<|QB<|QA (QC rfl)<|QA (QU rfl rfl rfl)<|QA (QE rfl)<|QF<|QD<|QG<|Qa<|Jz (ι:=vz n.natAbs) [(2,_),(4,_)] (fun i=>[(0,.int .i64 (Ro (decide (n<0)) i.m)),(3,i.v)]) (fun i=>(b2,.cells [.bool false,.slice none 0 0].toArray 143 (0,0))::i.ob) (fun i F=>True) (fun i=>i.m) (⟨n.natAbs,[],.slice none 0 0,[],Nat.le_refl _,by simp,DG.nil _,by simp,.nil⟩) ⟨rfl,rfl,trivial⟩ ⟨congrArg (fun z:Int=>some (Value.int .i64 z)) (Oe n),rfl,trivial⟩ (List.Sublist.refl _) (fun _ _=>trivial) (fun i=>?_))
 simp only [List.cons_append,List.nil_append]
 have hle:=i.le
 have hM:n.natAbs≤9223372036854775808:=by omega
 have hcs:=DZ (decide (n<0)) i.m
 have hsr : -9223372036854775808≤Ro (decide (n<0)) i.m∧Ro (decide (n<0)) i.m≤9223372036854775807:=by unfold Ro;split<;>rename_i g<;>simp at g<;>omega
 refine QG<|QG<|QB<|QA (QC rfl)<|QA (QU rfl rfl rfl)<|QF<|QD ?_
 refine QO rfl (fun hc=>?_) (fun hc=>?_)
 ·
  have h9:B9=1000000000:=rfl
  have hm0:0<i.m:=by
   rcases Nat.eq_zero_or_pos i.m with g | g
   ·rw [g] at hc;cases hd:decide (n<0)<;>simp [Ro,hd] at hc
   ·exact g
  have l2:=i.two hM hm0
  refine QN<|QD<|Qa<|QG<|QB<|QA (QC rfl)<|QA (xe rfl rfl (by decide)) ?_
  rw [qn]
  refine QA (QE rfl)<|QF<|QD<|QG<|QG<|QB<|QA (QC rfl)<|QA (QU rfl rfl rfl)<|QF<|QD ?_
  refine QO rfl (fun hc=>?_) (fun hc=>?_)
  ·
   have e1:Ro (decide (n<0)) (i.m%1000000000) = -(((i.m%1000000000):Nat):Int):=by
    have:=of_decide_eq_true hc
    rcases DZ (decide (n<0)) (i.m%1000000000) with g | g<;>omega
   rw [e1]
   refine QB<|QA (QC rfl)<|QA (Jx rfl rfl (by omega))<|QA (QE rfl)<|QF<|QD<|QG<|QB<|QA (QC rfl)<|QA (QC rfl)<|QV rfl (Q8 Qe) Qu Vi rfl rfl (fun b18=>ZI (bs':=[(b2,.cells [.bool false,.slice none 0 0].toArray 143 (0,0))]++i.ob) (List.Perm.refl _) ?_)
   refine Kr (ob:=i.ob) (k:=1) (sz:=1) (news:=[.int .i64 (0 - -(((i.m%1000000000):Nat):Int))]) rfl rfl Qe Qu Vi rfl DF i.hr (Src.row (off:=0) (fun F ⟨⟨hT,_⟩,hs18⟩=>hs18) (fun j v hv=>by rw [Nat.zero_add];show([.int .i64 (0 - -(((i.m%1000000000):Nat):Int))].toArray)[j]?=some v;rw [List.getElem?_toArray];exact hv) rfl) (by omega) (by omega) (Z0 ⟨rfl,trivial⟩) (fun v19 ob19 hr19=>?_)
   refine QA (QE rfl)<|QF<|QD<|QB<|QA (QC rfl)<|QA (O2 rfl rfl (by decide) (by omega) (by omega)) ?_
   rw [Fw]
   refine QA (QE rfl)<|QF<|Qm ?_
   exact Qo (⟨i.m / 1000000000,i.out++[(((i.m%1000000000):Nat):Int)],v19,ob19,by omega,by rw [List.length_append,List.length_singleton];omega,i.dg.append (DG.cons (by omega) (by show _<B9;rw [h9];omega) (DG.nil _)),Fm i.h,by simpa [Qz] using hr19⟩) (by show i.m / 1000000000<i.m;omega) ⟨rfl,rfl,rfl,rfl,trivial⟩ (List.Sublist.refl _) (fun F h=>⟨h.1.1,trivial⟩)
  ·
   have e1:Ro (decide (n<0)) (i.m%1000000000)=(((i.m%1000000000):Nat):Int):=by
    have:=of_decide_eq_false hc
    rcases DZ (decide (n<0)) (i.m%1000000000) with g | g<;>omega
   rw [e1]
   refine QN<|QD<|QG<|QB<|QA (QC rfl)<|QA (QC rfl)<|QV rfl (Q8 Qe) Qu Vi rfl rfl (fun b18=>ZI (bs':=[(b2,.cells [.bool false,.slice none 0 0].toArray 143 (0,0))]++i.ob) (List.Perm.refl _) ?_)
   refine Kr (ob:=i.ob) (k:=1) (sz:=1) (news:=[.int .i64 ((((i.m%1000000000):Nat):Int))]) rfl rfl Qe Qu Vi rfl DF i.hr (Src.row (off:=0) (fun F ⟨⟨hT,_⟩,hs18⟩=>hs18) (fun j v hv=>by rw [Nat.zero_add];show([.int .i64 ((((i.m%1000000000):Nat):Int))].toArray)[j]?=some v;rw [List.getElem?_toArray];exact hv) rfl) (by omega) (by omega) (Z0 ⟨rfl,trivial⟩) (fun v19 ob19 hr19=>?_)
   refine QA (QE rfl)<|QF<|QD<|QB<|QA (QC rfl)<|QA (O2 rfl rfl (by decide) (by omega) (by omega)) ?_
   rw [Fw]
   refine QA (QE rfl)<|QF<|Qm ?_
   exact Qo (⟨i.m / 1000000000,i.out++[(((i.m%1000000000):Nat):Int)],v19,ob19,by omega,by rw [List.length_append,List.length_singleton];omega,i.dg.append (DG.cons (by omega) (by show _<B9;rw [h9];omega) (DG.nil _)),Fm i.h,by simpa [Qz] using hr19⟩) (by show i.m / 1000000000<i.m;omega) ⟨rfl,rfl,rfl,rfl,trivial⟩ (List.Sublist.refl _) (fun F h=>⟨h.1.1,trivial⟩)
 ·
  have hm0:i.m=0:=by
   rcases hcs with g | g
   ·rw [g] at hc;simp at hc;exact hc
   ·rw [g] at hc;simp at hc;exact hc
  refine Q6 ?_
  repeat (first | refine Qc ?_ | refine QX (by rfl) ?_)
  refine Qd<|QD<|QG ?_
  have hfin:=i.h
  rw [hm0] at hfin
  have l3:=i.l3
  obtain ⟨r,hv,hrn,hrc,hfix⟩:=Q4.fix (w0:=w) (F0:=F) (bs1:=[(b2,.cells [.bool false,.slice none 0 0].toArray 143 (0,0))]) (G:=fun F=>True∧True) i.hr
  refine U9 hfix ?_
  rw [hv]
  refine QB<|QA (QC rfl)<|QA (QC rfl)<|QH rfl (fun w F hF ⟨⟨hT,_⟩,hX⟩=>Xy hF (r:=r) (l:=i.out) (neg:=decide (n<0)) ⟨by rw [hrn];exact hX,by rw [hrn],by omega⟩ (i.dg) (by omega)) (fun c24=>QP (vs:=[_,_]) rfl rfl rfl Qv rfl .here (.here (.here .nil)) ⟨rfl,rfl,trivial⟩<|QF<|QD<|QS ?_)
  have e:n=Wu (decide (n<0)) i.out:=by
   have e2:=Oe n
   unfold Wu;unfold Ro at e2
   split at e2<;>rename_i hs<;>simp only [hs]<;>simp<;>omega
  exact QQ (c24) rfl (.Ja (c:=[_,_]) rfl Qv .here .nil) (rfl) (fun F ⟨⟨⟨hT,_⟩,hX⟩,h24⟩=>(by rw [← e] at h24;exact h24))
end
section
open Go.RowKit Ig
theorem Vo {w:World} {F:Gs} {x:Int} {least:Nat} (hF:Fits F w) (h0:0≤x) (hn:x≤9223372036854775807) (hl:least≤1000):QW Tryz.prog 182 [.int .i64 x,.int .i64 (least:Int)] w F (tx (Ds x.toNat least)):=by
 have:=Ac (n:=x.toNat) (least:=least) hF (by omega) hl
 rw [Int.toNat_of_nonneg h0] at this;exact this
theorem Nw {n:Nat} (h:0<n):Ds n 1=Lib.decDigits n:=by
 have hne:(Lib.decDigits n).length≠0:=fun e=>Yv n (List.eq_nil_of_length_eq_zero e)
 unfold Ds hd VP
 rw [if_neg (by omega),show 1 - (Lib.decDigits n).length=0 by omega]
 rfl
theorem RR (n:Nat):Ds n 9=VP 9 (Lib.decDigits n):=by
 unfold Ds hd
 split
 ·rename_i h;subst h;rw [X8];decide
 ·rfl
theorem He {n:Nat} (h:n<1000000000):(Ds n 9).length=9:=by
 rw [RR,To]
 have:=Zc (u:=n) (k:=9) (by omega) (by decide)
 rw [Lib.decDigits_length];exact this
structure qO (l:List Int) where
 k:Nat
 s:List UInt8
 le:k<l.length
 ps:0<dv B9 (l.drop k)
 sl:s.length≤20+9*(l.length - k)
 h:s=Lib.decDigits (dv B9 (l.drop k)).toNat
theorem Gn {l:List Int} (hd:DG B9 l) (hz:NZ l) (h0:0<l.length):dv B9 (l.drop (l.length - 1))=Qf l (l.length - 1)∧0<Qf l (l.length - 1):=by
 have e:=J8 (l:=l) (k:=l.length - 1) (by omega)
 rw [List.drop_of_length_le (i:=l.length - 1+1) (by omega)] at e
 refine⟨by rw [e];simp [dv],?_⟩
 obtain ⟨h1,_⟩:=R9 (n:=l.length - 1) hd hz (by omega)
 omega
def qO.start {l:List Int} (hd:DG B9 l) (hz:NZ l) (h0:0<l.length):qO l:=⟨l.length - 1,Ds (Qf l (l.length - 1)).toNat 1,by omega,by rw [(Gn hd hz h0).1];exact(Gn hd hz h0).2,by
  have b:=hd.Qf JG (l.length - 1)
  have h9:B9=1000000000:=rfl
  rw [Nw (by have:=(Gn hd hz h0).2;omega),Lib.decDigits_length]
  have:=Zc (u:=(Qf l (l.length - 1)).toNat) (k:=9) (by rw [h9] at b;omega) (by decide)
  omega,by
  rw [Nw (by have:=(Gn hd hz h0).2;omega),(Gn hd hz h0).1]⟩
theorem qO.add {l:List Int} (i:qO l) (hd:DG B9 l) (hk:0<i.k):dv B9 (l.drop (i.k - 1))=Qf l (i.k - 1)+B9*dv B9 (l.drop i.k):=by
 have hle:=i.le
 rw [J8 (by omega),YT,show i.k - 1+1=i.k by omega]
def qO.next {l:List Int} (i:qO l) (hd:DG B9 l) (hk:0<i.k):qO l:=⟨i.k - 1,i.s++Ds (Qf l (i.k - 1)).toNat 9,by have:=i.le;omega,by
  rw [i.add hd hk]
  have b:=hd.Qf JG (i.k - 1)
  have p:=i.ps
  have:B9*1≤B9*dv B9 (l.drop i.k):=Int.mul_le_mul_of_nonneg_left (by omega) (by decide)
  have h9:B9=1000000000:=rfl
  omega,by
  have b:=hd.Qf JG (i.k - 1)
  have h9:B9=1000000000:=rfl
  rw [h9] at b
  have hle:=i.le
  have hsl:=i.sl
  rw [List.length_append,He (by omega)]
  omega,by
  have b:=hd.Qf JG (i.k - 1)
  have h9:B9=1000000000:=rfl
  rw [h9] at b
  have p:=i.ps
  have e:=Kj (q:=(dv B9 (l.drop i.k)).toNat) (by omega) 9 (Qf l (i.k - 1)).toNat (by decide) (by omega)
  rw [RR,i.h,← e,i.add hd hk]
  congr 1
  generalize dv B9 (l.drop i.k)=D at *
  rw [h9]
  omega⟩
theorem E6 {w:World} {F:Gs} {x:Ri} {zx:Int} (hF:Fits F w) (hx:YN F x zx) (hz:sz zx≤1000000):QW Tryz.prog 192 [x.v] w F (tx (XX zx)):=by
 obtain ⟨xn,⟨xq,xm,xc⟩,xl⟩:=x
 have px:=hx.p
 have lx:=px.len
 have kx:=hx.1.2.1
 have vx:=px.v0
 dsimp only at px lx kx vx
 dsimp only [Ri.v]
 have h9:B9=1000000000:=rfl
 refine QT.intro (G:=fun F=>YN F ⟨xn,⟨xq,xm,xc⟩,xl⟩ zx) Tryz.func192 rfl (by rfl) rfl rfl hF (fun F' hF'=>hx.le hF')<|QG<|QB<|Q5 rfl (vs:=[_,_]) rfl (fun b1=>QA (QE rfl)<|QF<|QD<|QG<|QG<|QB<|QA (QI rfl XK Qs)<|QA (Qn rfl Qs .here (.skip (.here .nil)))<|QA (Ql rfl Qe)<|QA (QU rfl rfl rfl)<|QF<|QD ?_)
 refine QO rfl (fun hc=>?_) (fun hc=>?_)
 ·
  have hx0:zx=0:=(px.zero).1 (List.eq_nil_of_length_eq_zero (by have:=hc;simp at this;omega))
  refine QG<|QB<|QA (QE rfl)<|QF<|QD<|QS ?_
  exact QQ (()) rfl (.tmp rfl .nil) (by rw [hx0,Jj (by decide)];exact congrArg (fun l=>tx l) X8) (fun F hx=>trivial)
 ·
  have hl0:0<xl.length:=by
   rcases Nat.eq_zero_or_pos xm with g | g
   ·rw [g] at hc;simp at hc
   ·omega
  obtain ⟨d1,d2⟩:=Gn px.dg px.nz hl0
  have b0:=px.dg.Qf JG (xl.length - 1)
  rw [h9] at b0
  refine QN<|QD<|QG<|QB<|QA (QI rfl XK Qs)<|QA (Qn rfl Qs .here (.skip (.here .nil)))<|QA (QI rfl XK Qs)<|QA (Qn rfl Qs .here (.skip (.here .nil)))<|QA (Ql rfl Qe)<|QA (Jx rfl rfl (by omega))<|QA (Jc (n:=xm) (xl.length - 1) (fun F hx=>(hx.1).1) rfl (congrArg (fun z:Int=>some (Value.int .i64 z)) (by omega)) Qe Qu (by omega))<|QA (Ji (n:=xm) ((xl.length - 1)*1) (fun F hx=>(hx.1).1) (by omega) rfl Qu (JR (o:=xl) (by omega)))<|QH rfl (fun w F hF hx=>Vo hF (least:=1) (by omega) (by omega) (by omega)) (fun _=>QA (QE rfl)<|QF<|QD<|QG<|QG<|QB<|QA (QI rfl XK Qs)<|QA (Qn rfl Qs .here (.skip (.here .nil)))<|QA (Ql rfl Qe)<|QA (Jx rfl rfl (by omega))<|QA (QE rfl)<|QF ?_)
  refine QD<|Qa<|YU (ι:=qO xl) [(1,_)] (fun i=>[(3,tx i.s),(4,.int .i64 ((i.k:Int) - 1))]) (fun i=>i.k) (qO.start px.dg px.nz hl0) ⟨rfl,trivial⟩ ⟨rfl,(congrArg (fun z:Int=>some (Value.int .i64 z)) (by simp only [qO.start];omega)),trivial⟩ (fun i=>?_)
  simp only [List.cons_append,List.nil_append]
  have hle:=i.le
  have hsl:=i.sl
  refine QG<|QG<|QB<|QA (QC rfl)<|QA (QU rfl rfl rfl)<|QF<|QD ?_
  refine QO rfl (fun hc=>?_) (fun hc=>?_)
  ·
   have hk0:0<i.k:=by have:=of_decide_eq_true hc;omega
   have b1:=px.dg.Qf JG (i.k - 1)
   rw [h9] at b1
   have ln:=He (n:=(Qf xl (i.k - 1)).toNat) (by omega)
   refine QN<|QD<|QG<|Qa<|QB<|QA (QC rfl)<|QA (QI rfl XK Qs)<|QA (Qn rfl Qs .here (.skip (.here .nil)))<|QA (QC rfl)<|QA (Jc (n:=xm) (i.k - 1) (fun F ⟨hx,_⟩=>(hx.1).1) rfl (congrArg (fun z:Int=>some (Value.int .i64 z)) (by omega)) Qe Qu (by omega))<|QA (Ji (n:=xm) ((i.k - 1)*1) (fun F ⟨hx,_⟩=>(hx.1).1) (by omega) rfl Qu (JR (o:=xl) (by omega)))<|QH rfl (fun w F hF ⟨hx,_⟩=>Vo hF (least:=9) (by omega) (by omega) (by omega)) (fun _=>QA (XO rfl rfl (by omega))<|QA (QE rfl)<|QF<|Qm<|QD<|QB<|QA (QC rfl)<|QA (Jx rfl rfl (by omega))<|QA (QE rfl)<|QF ?_)
   exact Qo (i.next px.dg hk0) (by show i.k - 1<i.k;omega) ⟨rfl,rfl,(congrArg (fun z:Int=>some (Value.int .i64 z)) (by simp only [qO.next];omega)),trivial⟩ (List.Sublist.refl _) (fun F h=>h.1)
  ·
   have hk0:i.k=0:=by have:=of_decide_eq_false hc;omega
   have hi:=i.h
   rw [hk0,List.drop_zero] at hi
   have ha:=px.abs
   refine Q6 ?_
   repeat (first | refine Qc ?_ | refine QX (by rfl) ?_)
   refine Qd<|QD<|QG<|QG<|QB<|QA (QI rfl Zd Yk)<|QA (Qn rfl Yk .here (.here .nil))<|QF<|QD ?_
   refine QO rfl (fun hc=>?_) (fun hc=>?_)
   ·
    have hneg:zx<0:=by have:=px.neg;rw [hc] at this;exact of_decide_eq_true this.symm
    refine QG<|QB<|QA (QC rfl)<|QA (XO rfl rfl (by simp;omega))<|QA (QE rfl)<|QF<|QD<|QS ?_
    exact QQ (()) rfl (.tmp rfl .nil) (by rw [Zg hneg,hi];exact congrArg (fun n=>tx (45::Lib.decDigits n)) (by omega)) (fun F ⟨hx,_⟩=>trivial)
   ·
    have hneg:¬ zx<0:=by have:=px.neg;rw [hc] at this;exact of_decide_eq_false this.symm
    refine QN<|QD<|QG<|QB<|QA (QC rfl)<|QA (QE rfl)<|QF<|QD<|QS ?_
    exact QQ (()) rfl (.tmp rfl .nil) (by rw [Jj (by omega),hi];exact congrArg (fun n=>tx (Lib.decDigits n)) (by omega)) (fun F ⟨hx,_⟩=>trivial)
end
section
open Go.RowKit Ig
structure dL (s:List UInt8) where
 s':List UInt8
 out:List Int
 v:Value
 ob:List (Nat×Obj)
 dg:DG B9 out
 al:XC s'=true
 ll:s'.length+9*out.length≤s.length
 h:(JB s':Int)*B9^out.length+dv B9 out=JB s
 hr:Q4 3 1 v out.length (out.map Qz) ob
theorem Ty:((10^9:Nat):Int)=B9:=by decide
theorem jI {s:List UInt8} {out:List Int} {z:Int} (h:(JB s:Int)*B9^out.length+dv B9 out=z) (hl:9≤s.length):(JB (s.take (s.length - 9)):Int)*B9^(out++[(JB (s.drop (s.length - 9)):Int)]).length+dv B9 (out++[(JB (s.drop (s.length - 9)):Int)])=z:=by
 have e:=Z9 (s.take (s.length - 9)) (s.drop (s.length - 9))
 rw [List.take_append_drop,List.length_drop,show s.length - (s.length - 9)=9 by omega] at e
 rw [XV,List.length_append,List.length_singleton,Int.pow_succ,← h,e,Int.natCast_add,Int.natCast_mul,Ty]
 generalize B9^out.length=p
 generalize ((JB (s.take (s.length - 9)):Nat):Int)=a
 generalize ((JB (s.drop (s.length - 9)):Nat):Int)=b
 generalize B9=B
 grind
theorem Hq {s:List UInt8} (h:Lib.hasPrefix s [45]=true):1≤s.length:=by
 rcases Nat.eq_zero_or_pos s.length with g | g
 ·rw [List.eq_nil_of_length_eq_zero g] at h;simp [Lib.hasPrefix] at h
 ·omega
theorem D1 {P:Program} {Q:Exit→Act→World→Prop} {ops:Array Oper} {l:List Oper} {N:Nat} {m:Sl} {E E':Env} (h:∀ w,St E w→St E' w) (k:JS P ops Q l N m E'):JS P ops Q l N m E:=fun a w ha hw=>k a w ha (h w hw)
theorem zr {s t:List UInt8} {out:List Int} (h:(JB t:Int)*B9^out.length+dv B9 out=JB (Lib.trimPrefix s [45])):Wu (Lib.hasPrefix s [45]) (out++[(JB t:Int)])=Zq s:=by
 have e:dv B9 (out++[(JB t:Int)])=JB (Lib.trimPrefix s [45]):=by
  rw [XV,← h,Int.mul_comm];omega
 unfold Wu Zq
 rw [e]
 unfold Lib.trimPrefix
 cases Lib.hasPrefix s [45]<;>simp
theorem Ps {s:List UInt8} (h:XC s=true) (hl:s.length≤9):(JB s:Int)<B9:=by
 have h1:=VL h
 have h2:10^s.length≤10^9:=Nat.pow_le_pow_right (by decide) hl
 have h3:=Ty
 omega
theorem V9 {w:World} {F:Gs} {s:List UInt8} (hF:Fits F w) (hs:XC (Lib.trimPrefix s [45])=true) (hl:s.length≤1000000):Wp Tryz.prog 167 [tx s] w F (Zq s):=by
 refine QT.intro (G:=fun F=>True) Tryz.func167 rfl (by rfl) rfl rfl hF (fun F' hF'=>trivial)<|QG<|QB<|QZ Xc (fun b2=>QF<|QD ?_)
 refine Z5 [(0,_),(2,_)] [(3,.bool (Lib.hasPrefix s [45]))] ⟨rfl,rfl,trivial⟩ ?_ ?_
 ·
  refine QB<|QA (QC rfl)<|QA (Jo rfl J5)<|QA (QU rfl rfl rfl)<|QA (QC rfl) ?_
  refine Qk (t:=8) rfl (fun hb8=>?_) (fun hb8=>?_)
  ·
   refine QJ rfl rfl<|QA (QC rfl)<|QJ rfl rfl<|QA (KA (i:=0) rfl rfl J5 (by have:=of_decide_eq_true hb8;omega))<|QJ rfl rfl<|QA (QU rfl rfl rfl)<|QA (Qi rfl rfl rfl)<|QA (QE rfl)<|QF ?_
   exact XI ⟨rfl,rfl,(congrArg (fun b=>some (Value.bool b)) (by have h0:0<s.length:=(by have:=of_decide_eq_true hb8;omega);rw [Yt h0];exact W3 rfl)),trivial⟩ (List.Sublist.refl _) (fun _ h=>h)
  ·
   refine QR rfl rfl rfl<|QR rfl rfl rfl<|QR rfl rfl rfl<|QA (Qh rfl rfl rfl)<|QA (QE rfl)<|QF ?_
   exact XI ⟨rfl,rfl,(congrArg (fun b=>some (Value.bool b)) (by have h0:s.length=0:=(by have:=of_decide_eq_false hb8;omega);rw [List.eq_nil_of_length_eq_zero h0];rfl)),trivial⟩ (List.Sublist.refl _) (fun _ h=>h)
 ·
  simp only [List.cons_append,List.nil_append]
  refine Z5 [(2,_),(3,_)] [(0,tx (Lib.trimPrefix s [45]))] ⟨rfl,rfl,trivial⟩ ?_ ?_
  ·
   refine QG<|QB<|QA (QC rfl)<|QF<|QD ?_
   refine QO rfl (fun hc=>?_) (fun hc=>?_)
   ·
    refine QB<|QA (QC rfl)<|QA (Zr (1) rfl rfl J5 rfl (Hq hc))<|QA (QE rfl)<|QF ?_
    exact XI ⟨rfl,rfl,(congrArg (fun l=>some (tx l)) (by unfold Lib.trimPrefix;rw [if_pos hc];rfl)),trivial⟩ (List.Sublist.refl _) (fun _ h=>h)
   ·
    refine QN ?_
    exact XI ⟨rfl,rfl,(congrArg (fun l=>some (tx l)) (by unfold Lib.trimPrefix;rw [hc];rfl)),trivial⟩ (List.Sublist.refl _) (fun _ h=>h)
  ·
   simp only [List.cons_append,List.nil_append]
   have hln:(Lib.trimPrefix s [45]).length≤s.length:=BE _ _
   refine QG<|QB<|QA (QE rfl)<|QF<|QD<|QG<|Qa<|Jz (ι:=dL (Lib.trimPrefix s [45])) [(2,_),(3,_)] (fun i=>[(0,tx i.s'),(4,i.v)]) (fun i=>(b2,.cells [.bool false,.slice none 0 0].toArray 143 (0,0))::i.ob) (fun i F=>True) (fun i=>i.s'.length) (⟨Lib.trimPrefix s [45],[],.slice none 0 0,[],DG.nil _,hs,by simp,by simp,.nil⟩) ⟨rfl,rfl,trivial⟩ ⟨rfl,rfl,trivial⟩ (List.Sublist.refl _) (fun _ _=>trivial) (fun i=>?_)
   simp only [List.cons_append,List.nil_append]
   have hll:=i.ll
   refine QG<|QG<|QB<|QA (QC rfl)<|QA (Jo rfl J5)<|QA (QU rfl rfl rfl)<|QF<|QD ?_
   refine QO rfl (fun hc=>?_) (fun hc=>?_)
   ·
    have h9:9<i.s'.length:=by have:=of_decide_eq_true hc;omega
    refine QN<|QD<|Qa<|QG<|QB<|QA (QC rfl)<|QA (QC rfl)<|QA (QC rfl)<|QA (Jo rfl J5)<|QA (Jx rfl rfl (by omega))<|QA (Zr (i.s'.length - 9) rfl rfl J5 (congrArg (fun z:Int=>some (Value.int .i64 z)) (by omega)) (by omega))<|QH rfl (fun w F hF ⟨hT,_⟩=>BS hF (Dv i.al _) (by rw [List.length_drop];omega)) (fun _=>QV rfl (Q8 Qe) Qu Vi rfl rfl (fun b26=>ZI (bs':=[(b2,.cells [.bool false,.slice none 0 0].toArray 143 (0,0))]++i.ob) (List.Perm.refl _) ?_))
    refine Kr (ob:=i.ob) (k:=1) (sz:=1) (news:=[.int .i64 ((JB (i.s'.drop (i.s'.length - 9)):Int))]) rfl rfl Qe Qu Vi rfl DF i.hr (Src.row (off:=0) (fun F ⟨⟨⟨hT,_⟩,_⟩,hs26⟩=>hs26) (fun j v hv=>by rw [Nat.zero_add];show([.int .i64 ((JB (i.s'.drop (i.s'.length - 9)):Int))].toArray)[j]?=some v;rw [List.getElem?_toArray];exact hv) rfl) (by omega) (by omega) (Z0 ⟨rfl,trivial⟩) (fun v27 ob27 hr27=>?_)
    refine QA (QE rfl)<|QF<|QD<|QB<|QA (QC rfl)<|QA (QC rfl)<|QA (Jo rfl J5)<|QA (Jx rfl rfl (by omega))<|QA (Vq (i.s'.length - 9) rfl rfl J5 (congrArg (fun z:Int=>some (Value.int .i64 z)) (by omega)) (by omega))<|QA (QE rfl)<|QF<|Qm ?_
    exact Qo (⟨i.s'.take (i.s'.length - 9),i.out++[(JB (i.s'.drop (i.s'.length - 9)):Int)],v27,ob27,i.dg.append (DG.cons (by omega) (Ps (Dv i.al _) (by rw [List.length_drop];omega)) (DG.nil _)),Gu i.al _,by rw [List.length_take,List.length_append,List.length_singleton];omega,jI i.h (by omega),by simpa [Qz] using hr27⟩) (by show(i.s'.take (i.s'.length - 9)).length<i.s'.length;rw [List.length_take];omega) ⟨rfl,rfl,rfl,rfl,trivial⟩ (List.Sublist.refl _) (fun F h=>⟨h.1.1.1,trivial⟩)
   ·
    have h9:i.s'.length≤9:=by have:=of_decide_eq_false hc;omega
    refine Q6 ?_
    repeat (first | refine Qc ?_ | refine QX (by rfl) ?_)
    refine Qd<|QD<|QG<|QB<|QA (QC rfl)<|QA (QC rfl)<|QA (QC rfl)<|QH rfl (fun w F hF ⟨hT,_⟩=>BS hF (i.al) (by omega)) (fun _=>QV rfl (Q8 Qe) Qu Vi rfl rfl (fun b37=>ZI (bs':=[(b2,.cells [.bool false,.slice none 0 0].toArray 143 (0,0))]++i.ob) (List.Perm.refl _) ?_))
    refine Kr (ob:=i.ob) (k:=1) (sz:=1) (news:=[.int .i64 ((JB i.s':Int))]) rfl rfl Qe Qu Vi rfl DF i.hr (Src.row (off:=0) (fun F ⟨⟨⟨hT,_⟩,_⟩,hs37⟩=>hs37) (fun j v hv=>by rw [Nat.zero_add];show([.int .i64 ((JB i.s':Int))].toArray)[j]?=some v;rw [List.getElem?_toArray];exact hv) rfl) (by omega) (by omega) (Z0 ⟨rfl,trivial⟩) (fun v38 ob38 hr38=>?_)
    obtain ⟨r,hv,hrn,hrc,hfix⟩:=Q4.fix (w0:=w) (F0:=F) (bs1:=[(b2,.cells [.bool false,.slice none 0 0].toArray 143 (0,0))]) (G:=_) hr38
    refine D1 hfix ?_
    rw [hv]
    refine QH rfl (fun w F hF ⟨⟨⟨⟨hT,_⟩,_⟩,hs37⟩,hX⟩=>Xy hF (r:=r) (l:=i.out++[(JB i.s':Int)]) (neg:=Lib.hasPrefix s [45]) ⟨by rw [hrn];simpa [Qz] using hX,by rw [hrn];simp,by omega⟩ (i.dg.append (DG.cons (by omega) (Ps i.al h9) (DG.nil _))) (by first | omega | (simp;omega))) (fun c39=>QP (vs:=[_,_]) rfl rfl rfl Qv rfl .here (.here (.here .nil)) ⟨rfl,rfl,trivial⟩<|QF<|QD<|QS ?_)
    exact QQ (c39) rfl (.Ja (c:=[_,_]) rfl Qv .here .nil) (rfl) (fun F ⟨⟨⟨⟨⟨hT,_⟩,_⟩,hs37⟩,hX⟩,h39⟩=>(by rw [zr i.h] at h39;exact h39))
end
section
open Go.RowKit Ig
theorem Gk (z:Int):(XX z).length≤sz z+2:=by
 have h:(Lib.decDigits z.natAbs).length≤sz z+1:=by
  rw [Lib.decDigits_length]
  refine Zc ?_ (by omega)
  have h1:=HK z
  have h2:2^sz z≤10^sz z:=Nat.pow_le_pow_left (by decide) _
  have h3:10^sz z≤10^(sz z+1):=Nat.pow_le_pow_right (by decide) (by omega)
  omega
 rcases Int.lt_or_le z 0 with g | g
 ·rw [Zg g,List.length_cons];omega
 ·rw [Jj g];omega
theorem SF (n:Nat):(Lib.decDigits n).length≤sz (n:Int)+1:=by
 rw [Lib.decDigits_length]
 refine Zc ?_ (by omega)
 have h1:=HK (n:Int)
 have h2:2^sz (n:Int)≤10^sz (n:Int):=Nat.pow_le_pow_left (by decide) _
 have h3:10^sz (n:Int)≤10^(sz (n:Int)+1):=Nat.pow_le_pow_right (by decide) (by omega)
 simp at h1
 omega
theorem Gj (x:Rat):(JJ x).length≤2*JX x+4:=by
 have h1:=Gk x.num
 have h2:=SF x.den
 have h3:=JW x
 have h4:=JU x
 unfold JJ
 split
 ·omega
 ·rw [List.length_append,List.length_cons];omega
theorem RX {l:List UInt8} (h:l.contains 47=false):l.all (fun c=>!Jn c)=true:=by
 rw [List.all_eq_true]
 intro c hc
 have:c≠47:=by rintro rfl;simp [hc] at h
 simp [Jn,this]
theorem P5 (z:Int):(XX z).contains 47=false:=Bh z (by decide) (by decide)
theorem Hm {x:Rat} (h:x.den=1):JJ x=XX x.num∧ahead Jn (JJ x)=(JJ x).length:=by
 have e:JJ x=XX x.num:=by unfold JJ;rw [if_pos h]
 exact⟨e,by rw [e];exact RZ (RX (P5 _))⟩
theorem Kg {x:Rat} (h:x.den≠1):ahead Jn (JJ x)=(XX x.num).length∧ahead Jn (JJ x)<(JJ x).length∧(JJ x).take (ahead Jn (JJ x))=XX x.num∧(JJ x).drop (ahead Jn (JJ x)+1)=Lib.decDigits x.den:=by
 have e:JJ x=XX x.num++47::Lib.decDigits x.den:=by unfold JJ;rw [if_neg h]
 have h1:ahead Jn (JJ x)=(XX x.num).length:=by
  refine RY (by rw [e];simp) ?_ ?_
  ·rw [e,List.take_append_of_le_length (Nat.le_refl _),List.take_length];exact RX (P5 _)
  ·simp [e,Jn]
 rw [h1]
 refine⟨rfl,by rw [e];simp,?_,?_⟩
 ·rw [e];simp
 ·rw [e,List.drop_append];simp
theorem Hn (x:Rat):(ahead Jn (JJ x)=(JJ x).length)↔x.den=1:=by
 constructor
 ·intro h
  by_cases g:x.den=1
  ·exact g
  ·have:=(Kg g).2.1;omega
 ·intro h;exact(Hm h).2
theorem P4 (z:Int):XC (Lib.trimPrefix (XX z) [45])=true:=by rw [Ga];exact JZ _
theorem Lm (n:Nat):XC (Lib.trimPrefix (Lib.decDigits n) [45])=true:=by rw [ZA (JZ n)];exact JZ _
theorem I5 (n:Nat):Zq (Lib.decDigits n)=n:=by rw [XB (JZ n),XP]
@[reducible] def Ri.v2 (c:Ri×Ri):Value:=.tuple #[c.1.v,c.2.v]
theorem YM {w:World} {F:Gs} {x:Rat} (hF:Fits F w) (hl:JX x≤100000):QT Tryz.prog 119 [tx (JJ x)] w F Ri.v2 (fun c F=>YN F c.1 x.num∧YN F c.2 x.den):=by
 have hlen:=Gj x
 refine QT.intro (G:=fun F=>True) Tryz.func119 rfl (by rfl) rfl rfl hF (fun F' hF'=>trivial)<|QG<|QB<|QZ Xc (fun b2=>QZ Xc (fun b3=>QF<|QD<|QG<|QB<|QA (QC rfl)<|QA (QE rfl)<|QF<|QD<|QG<|QB<|QA (QC rfl)<|QH rfl (fun w F hF hT=>VK hF (by omega)) (fun _=>QA (QE rfl)<|QF<|QD<|QG<|QG<|QB<|QA (QC rfl)<|QA (QC rfl) ?_)))
 refine QA (Jo rfl J5)<|QA (QU rfl rfl rfl)<|QF<|QD ?_
 refine QO rfl (fun hc=>?_) (fun hc=>?_)
 ·
  have hd:x.den=1:=(Hn x).1 (by have:(ahead Jn (JJ x):Int)=((JJ x).length:Int):=(by simpa using hc);omega)
  rw [(Hm hd).1]
  refine QG<|QB<|QA (QC rfl)<|QH rfl (fun w F hF ⟨hT,_⟩=>V9 hF (P4 _) (by have:=Gk x.num;have:=JW x;omega)) (fun c14=>QH rfl (fun w F hF ⟨⟨hT,_⟩,h14⟩=>Ge hF (by decide)) (fun c15=>QP (vs:=[_,_]) rfl rfl rfl Qv rfl (.there .here) (.here (.here .nil)) ⟨rfl,rfl,trivial⟩<|QP (vs:=[_,_]) rfl rfl rfl Qv rfl .here (.here (.here .nil)) ⟨rfl,rfl,trivial⟩<|QF<|QD<|QS ?_))
  exact JH ((c14,c15):Ri×Ri) rfl (.Ja (c:=[_,_]) rfl Qv (.there .here) (.Ja (c:=[_,_]) rfl Qv .here .nil)) (rfl) (fun F ⟨⟨⟨hT,_⟩,h14⟩,h15⟩=>⟨by rw [Z8] at h14;exact h14,by have e:(x.den:Int)=1:=(by rw [hd];rfl);rw [e];exact h15⟩)
 ·
  have hd:¬ x.den=1:=fun g=>by have:=(Hn x).2 g;rw [this] at hc;simp at hc
  obtain ⟨k1,k2,k3,k4⟩:=Kg hd
  refine QN<|QD<|QG<|JQ (.cons _ (.cons _ .slnil)) mixed (by kernel_rfl)<|QM (QC rfl)<|QM (QC rfl)<|QM (Vq (ahead Jn (JJ x)) rfl rfl J5 rfl (by omega)) ?_
  rw [k3]
  refine Qb rfl (fun w F hF ⟨hT,_⟩=>V9 hF (P4 _) (by have:=Gk x.num;have:=JW x;omega)) (fun c19=>QM (QC rfl)<|QM (QC rfl)<|QM (Qw rfl rfl (by omega))<|QM (Zr ((ahead Jn (JJ x)+1)) rfl rfl J5 (congrArg (fun z:Int=>some (Value.int .i64 z)) (by omega)) (by omega)) ?_)
  rw [k4]
  refine Qb rfl (fun w F hF ⟨⟨hT,_⟩,Bq⟩=>V9 hF (Lm _) (by have:=SF x.den;have:=JU x;omega)) (fun c24=>JY (vs:=[_,_]) rfl rfl rfl Qv rfl (.there .here) (.cons _ .slnil) (fun _ h=>h.1.1) (.here (.here .nil)) ⟨rfl,rfl,trivial⟩<|JY (vs:=[_,_]) rfl rfl rfl Qv rfl .here (.cons _ .slnil) (fun _ h=>h.1.1) (.here (.here .nil)) ⟨rfl,rfl,trivial⟩<|Q3<|QD<|QS ?_)
  exact JH ((c19,c24):Ri×Ri) rfl (.Ja (c:=[_,_]) rfl Qv (.there .here) (.Ja (c:=[_,_]) rfl Qv .here .nil)) (rfl) (fun F ⟨⟨⟨hT,_⟩,Bq⟩,h24⟩=>⟨by rw [Z8] at Bq;exact Bq,by rw [I5] at h24;exact h24⟩)
end
section
open Go.RowKit Ig
structure gM (zx zy:Int) where
 n:Ri
 d:Ri
 zn:Int
 zd:Int
 h:0<zd
 e:Rat.divInt zn zd=Rat.divInt zx zy
 sn:sz zn≤500000
 sd:sz zd≤500000
theorem ju {n d:Int} (h:0<d) {neg:Bool} {l p:List Int} (hn:Vf neg l n) (hp:dv B9 p=dv B9 l / (Int.gcd n d:Int)):Wu neg p=(Rat.divInt n d).num:=by
 rw [(YE h).1]
 have hg:(0:Int)<(Int.gcd n d:Int):=by have:=Kz (x:=n) h;omega
 obtain ⟨k,hk⟩:=Int.gcd_dvd_left (a:=n) (b:=d)
 have e:=hn.e
 have hv:=hn.v0
 unfold Wu at e ⊢
 rw [hp]
 cases neg with
 |true =>
  simp only [if_true] at e ⊢
  have e2:dv B9 l=(Int.gcd n d:Int)*(-k):=by rw [Int.mul_neg,← hk];omega
  rw [e2,Int.mul_ediv_cancel_left _ (by omega)]
  have e3:n / (Int.gcd n d:Int)=k:=by
   conv=>lhs;lhs;rw [hk]
   exact Int.mul_ediv_cancel_left _ (by omega)
  rw [e3];omega
 |false =>
  simp only [Bool.false_eq_true,if_false] at e ⊢
  rw [← e]
theorem jv {n d:Int} (h:0<d) {neg:Bool} {l p:List Int} (hn:Vf neg l d) (hp:dv B9 p=dv B9 l / (Int.gcd n d:Int)):dv B9 p=((Rat.divInt n d).den:Int):=by
 rw [(YE h).2,hp]
 have:=hn.abs
 congr 1;omega
theorem Ui {n d:Int} {a b:Bool} {l m:List Int} (hn:Vf a l n) (hd:Vf b m d):Int.gcd (dv B9 l) (dv B9 m)=Int.gcd n d:=by
 rw [← hn.abs,← hd.abs];simp [Int.gcd]
theorem Us (x y:Int):Rat.divInt (-x) (-y)=Rat.divInt x y:=Rat.neg_divInt_neg x y
theorem NH {l:List Int} (h:DG B9 l) (hz:NZ l):(l.length=1∧Qf l 0=1)↔dv B9 l=1:=by
 constructor
 ·rintro ⟨h1,h2⟩
  obtain ⟨x,rfl⟩:=List.length_eq_one_iff.1 h1
  simp [Qf] at h2
  simp [dv,h2]
 ·intro e
  have:l=[1]:=C6 Bq h (DG.cons (by decide) (by decide) (DG.nil _)) hz (by simp [NZ]) (by rw [e];simp [dv])
  subst this;exact⟨rfl,rfl⟩
theorem F7 {x:Rat} (h:(x.den:Int)=1):XX x.num=JJ x:=by unfold JJ;rw [if_pos (by omega)]
theorem Ru {x:Rat} (h:¬ (x.den:Int)=1):XX x.num++[47]++XX (x.den:Int)=JJ x:=by
 unfold JJ;rw [if_neg (by omega),Jj (z:=(x.den:Int)) (by omega)];simp
theorem Yd {w:World} {F:Gs} {x y:Ri} {zx zy:Int} (hF:Fits F w) (hx:YN F x zx) (hy:YN F y zy) (h0:zy≠0) (hzx:sz zx≤500000) (hzy:sz zy≤500000):QW Tryz.prog 180 [x.v,y.v] w F (tx (JJ (Rat.divInt zx zy))):=by
 obtain ⟨xn,⟨xq,xm,xc⟩,xl⟩:=x
 have px:=hx.p
 have lx:=px.len
 have kx:=hx.1.2.1
 have vx:=px.v0
 dsimp only at px lx kx vx
 obtain ⟨yn,⟨yq,ym,yc⟩,yl⟩:=y
 have py:=hy.p
 have ly:=py.len
 have ky:=hy.1.2.1
 have vy:=py.v0
 dsimp only at py ly ky vy
 dsimp only [Ri.v]
 have hny:=py.neg
 refine QT.intro (G:=fun F=>YN F ⟨xn,⟨xq,xm,xc⟩,xl⟩ zx∧YN F ⟨yn,⟨yq,ym,yc⟩,yl⟩ zy) Tryz.func180 rfl (by rfl) rfl rfl hF (fun F' hF'=>⟨hx.le hF',hy.le hF'⟩)<|QG<|QB<|Q5 rfl (vs:=[_,_]) rfl (fun b2=>Q5 rfl (vs:=[_,_]) rfl (fun b3=>QA (QE rfl)<|QF<|QD ?_))
 refine Ik (ι:=gM zx zy) [(2,_),(3,_)] (fun i=>[]) (fun i=>[(b3,.cells [.bool i.d.neg,.slice i.d.r.q i.d.r.n i.d.r.cap].toArray 143 (0,0)),(b2,.cells [.bool i.n.neg,.slice i.n.r.q i.n.r.n i.n.r.cap].toArray 143 (0,0))]) (fun i F=>YN F i.n i.zn∧YN F i.d i.zd) ⟨rfl,rfl,trivial⟩ ?_ ?_
 ·
  refine QG<|QB<|QA (QI rfl Zd Yk)<|QA (Qn rfl Yk .here (.here .nil))<|QF<|QD ?_
  refine QO rfl (fun hc=>?_) (fun hc=>?_)
  ·
   refine Xr 4 (List.Sublist.refl _) mixed (by kernel_rfl) (by kernel_rfl) ?_
   simp only [List.take_succ_cons,List.take_zero,List.drop_succ_cons,List.drop_zero]
   refine QM (QL (vs:=[_,_]) rfl Qv (.there .here) (.here (.here .nil)) rfl)<|Qb rfl (fun w F hF ⟨hx,hy⟩=>TX hF (x:=⟨xn,⟨xq,xm,xc⟩,xl⟩) hx (by omega)) (fun c14=>QM (QL (vs:=[_,_]) rfl Qv .here (.here (.here .nil)) rfl)<|Qb rfl (fun w F hF ⟨⟨hx,hy⟩,h14⟩=>TX hF (x:=⟨yn,⟨yq,ym,yc⟩,yl⟩) hy (by omega)) (fun c16=>K9<|QP (vs:=[_,_]) rfl rfl rfl Qv rfl (.there .here) (.here (.here .nil)) ⟨rfl,rfl,trivial⟩<|QP (vs:=[_,_]) rfl rfl rfl Qv rfl .here (.here (.here .nil)) ⟨rfl,rfl,trivial⟩<|QF ?_))
   exact J9 (⟨c14,c16,-zx,-zy,by rw [hc] at hny;have:=of_decide_eq_true hny.symm;omega,Us _ _,by rw [YF];exact hzx,by rw [YF];exact hzy⟩) ⟨rfl,rfl,trivial⟩ (List.Sublist.refl _) (fun F ⟨⟨⟨hx,hy⟩,h14⟩,h16⟩=>⟨⟨hx,hy⟩,⟨h14,h16⟩⟩)
  ·
   refine QN ?_
   exact J9 (⟨⟨xn,⟨xq,xm,xc⟩,xl⟩,⟨yn,⟨yq,ym,yc⟩,yl⟩,zx,zy,by rw [hc] at hny;have:=of_decide_eq_false hny.symm;omega,rfl,hzx,hzy⟩) ⟨rfl,rfl,trivial⟩ (List.Sublist.refl _) (fun F ⟨hx,hy⟩=>⟨⟨hx,hy⟩,⟨hx,hy⟩⟩)
 ·intro i
  simp only [List.cons_append,List.nil_append]
  refine Xl _ (fun w F hF h=>And.intro h.2.1.p (And.intro h.2.2.p (And.intro h.2.1.1.2.1 h.2.2.1.2.1))) (fun pp=>?_)
  obtain ⟨pn,pd,kn,kd⟩:=pp
  have ln:=pn.len
  have ld:=pd.len
  have hsn:=i.sn
  have hsd:=i.sd
  have hi:=i.h
  have gg:=Ui pn pd
  have q1:=YV (a:=i.zn) (b:=i.zd) (by omega)
  have q2:=JW (Rat.divInt i.zn i.zd)
  have q3:=JU (Rat.divInt i.zn i.zd)
  have q4:sz (Rat.divInt i.zn i.zd).num≤500000:=by omega
  have q5:sz ((Rat.divInt i.zn i.zd).den:Int)≤500000:=by omega
  refine QG<|QB<|QA (QI rfl XK Qs)<|QA (Qn rfl Qs (.there .here) (.skip (.here .nil)))<|QA (QI rfl XK Qs)<|QA (Qn rfl Qs .here (.skip (.here .nil))) ?_
  refine QH rfl (fun w F hF ⟨⟨hx,hy⟩,⟨hN,hD⟩⟩=>Pv hF (a:=i.n.l) (b:=i.d.l) (ra:=i.n.r) (rb:=i.d.r) hN.1 (hD.1) (pn.dg) (pd.dg) (pn.nz) (pd.nz) (by omega) (by omega)) (fun c21=>?_);rcases c21 with ⟨v21,l21⟩;dsimp only
  refine JK _ (fun w F hF ⟨⟨⟨hx,hy⟩,⟨hN,hD⟩⟩,⟨h21,h21p⟩⟩=>And.intro h21.2 h21p) (fun p21=>QA (QE rfl)<|QF<|QD<|QG ?_)
  have g0:0<dv B9 l21:=by rw [p21.2.2.2,gg];have:=Kz (x:=i.zn) i.h;omega
  have l21l:l21.length≤i.d.l.length:=by
   refine KT p21.2.1 pd.dg p21.2.2.1 ?_
   rw [p21.2.2.2,gg]
   have h1:(Int.gcd i.zn i.zd:Int)≤i.zd:=Int.le_of_dvd i.h (Int.gcd_dvd_right (a:=i.zn) (b:=i.zd))
   have h2:=pd.abs
   omega
  refine QB<|QA (QI rfl XK Qs)<|QA (Qn rfl Qs (.there .here) (.skip (.here .nil)))<|QA (QC rfl)<|QH rfl (fun w F hF ⟨⟨⟨hx,hy⟩,⟨hN,hD⟩⟩,⟨h21,h21p⟩⟩=>Kw hF (a:=i.n.l) (b:=l21) (ra:=i.n.r) (rb:=v21) hN.1 (h21) (pn.dg) (p21.2.1) (pn.nz) (p21.2.2.1) (g0) (by omega) (by omega)) (fun c26=>QA (QC rfl)<|QA (QK rfl rfl)<|QA (QK rfl rfl)<|QA (QE rfl)<|QA (QE rfl)<|QF<|QD<|QG<|Xl _ (fun w F hF h=>And.intro h.2.1.2 h.2.1.1.2.1) (fun p26=>?_))
  obtain ⟨p26,n26⟩:=p26
  refine QB<|QA (QI rfl XK Qs)<|QA (Qn rfl Qs .here (.skip (.here .nil)))<|QA (QC rfl)<|QH rfl (fun w F hF ⟨⟨⟨⟨hx,hy⟩,⟨hN,hD⟩⟩,⟨h21,h21p⟩⟩,h26⟩=>Kw hF (a:=i.d.l) (b:=l21) (ra:=i.d.r) (rb:=v21) hD.1 (h21) (pd.dg) (p21.2.1) (pd.nz) (p21.2.2.1) (g0) (by omega) (by omega)) (fun c33=>QA (QC rfl)<|QA (QK rfl rfl)<|QA (QK rfl rfl)<|QA (QE rfl)<|QA (QE rfl)<|QF<|QD<|QG<|Xl _ (fun w F hF h=>And.intro h.2.1.2 h.2.1.1.2.1) (fun p33=>?_))
  obtain ⟨p33,n33⟩:=p33
  have en:Wu i.n.neg c26.1.2=(Rat.divInt i.zn i.zd).num:=ju i.h pn (by rw [p26.2.2,p21.2.2.2,gg])
  have ed:dv B9 c33.1.2=((Rat.divInt i.zn i.zd).den:Int):=jv i.h pd (by rw [p33.2.2,p21.2.2.2,gg])
  have ed2:Wu false c33.1.2=((Rat.divInt i.zn i.zd).den:Int):=by rw [← ed];rfl
  have lnp:=KT p26.1 pn.dg p26.2.1 (by rw [p26.2.2];exact Int.ediv_le_self _ pn.v0)
  have lnq:=KT p33.1 pd.dg p33.2.1 (by rw [p33.2.2];exact Int.ediv_le_self _ pd.v0)
  have one1:=NH p33.1 p33.2.1
  have lr1:=Gk (Rat.divInt i.zn i.zd).num
  have lr2:=Gk ((Rat.divInt i.zn i.zd).den:Int)
  refine QB<|QA (QI rfl Zd Yk)<|QA (Qn rfl Yk (.there .here) (.here .nil))<|QA (QC rfl)<|QH rfl (fun w F hF ⟨⟨⟨⟨⟨hx,hy⟩,⟨hN,hD⟩⟩,⟨h21,h21p⟩⟩,h26⟩,h33⟩=>Xy hF (r:=c26.1.1) (l:=c26.1.2) (neg:=i.n.neg) h26.1.1 (p26.1) (by first | omega | (simp;omega))) (fun c39=>QH rfl (fun w F hF ⟨⟨⟨⟨⟨⟨hx,hy⟩,⟨hN,hD⟩⟩,⟨h21,h21p⟩⟩,h26⟩,h33⟩,h39⟩=>E6 hF (zx:=(Rat.divInt i.zn i.zd).num) (by rw [← en];exact h39) (by omega)) (fun _=>QA (QE rfl)<|QF<|QD<|QG<|QG<|QB<|QA (QC rfl)<|QA (Ql rfl Qe)<|QA (QU rfl rfl rfl)<|QA (QC rfl) ?_))
  refine Qk (t:=44) rfl (fun hb44=>?_) (fun hb44=>?_)
  ·
   have hn1:c33.1.1.n=1:=by simp at hb44;omega
   refine QJ rfl rfl<|QA (QC rfl)<|QJ rfl rfl<|QA (Jc (n:=c33.1.1.n) (0) (fun F ⟨⟨⟨⟨⟨⟨⟨hx,hy⟩,⟨hN,hD⟩⟩,⟨h21,h21p⟩⟩,h26⟩,h33⟩,h39⟩,_⟩=>(h33.1.1).1) rfl (congrArg (fun z:Int=>some (Value.int .i64 z)) (by omega)) Qe Qu (by omega))<|QJ rfl rfl<|QA (Ji (n:=c33.1.1.n) ((0)*1) (fun F ⟨⟨⟨⟨⟨⟨⟨hx,hy⟩,⟨hN,hD⟩⟩,⟨h21,h21p⟩⟩,h26⟩,h33⟩,h39⟩,_⟩=>(h33.1.1).1) (by omega) rfl Qu (JR (o:=c33.1.2) (by omega)))<|QJ rfl rfl<|QA (QU rfl rfl rfl)<|QA (Qi rfl rfl rfl)<|QF<|QD ?_
   refine QO rfl (fun hc=>?_) (fun hc=>?_)
   ·
    refine QG<|QB<|QA (QC rfl)<|QA (QE rfl)<|QF<|QD<|QS ?_
    exact QQ (()) rfl (.tmp rfl .nil) (by rw [← i.e];exact congrArg (fun l=>tx l) (F7 (by rw [← ed];exact one1.1 ⟨by omega,by simpa using hc⟩)).symm) (fun F ⟨⟨⟨⟨⟨⟨⟨hx,hy⟩,⟨hN,hD⟩⟩,⟨h21,h21p⟩⟩,h26⟩,h33⟩,h39⟩,_⟩=>trivial)
   ·
    refine QN<|QD<|QG<|QB<|QA (QC rfl)<|QA (XO rfl rfl (by simp;omega))<|QA (QC rfl)<|QH rfl (fun w F hF ⟨⟨⟨⟨⟨⟨⟨hx,hy⟩,⟨hN,hD⟩⟩,⟨h21,h21p⟩⟩,h26⟩,h33⟩,h39⟩,_⟩=>Xy hF (r:=c33.1.1) (l:=c33.1.2) (neg:=false) h33.1.1 (p33.1) (by first | omega | (simp;omega))) (fun c54=>QH rfl (fun w F hF ⟨⟨⟨⟨⟨⟨⟨⟨hx,hy⟩,⟨hN,hD⟩⟩,⟨h21,h21p⟩⟩,h26⟩,h33⟩,h39⟩,_⟩,h54⟩=>E6 hF (zx:=((Rat.divInt i.zn i.zd).den:Int)) (by rw [← ed2];exact h54) (by omega)) (fun _=>QA (XO rfl rfl (by simp;omega))<|QA (QE rfl)<|QF<|QD<|QS ?_))
    exact QQ (()) rfl (.tmp rfl .nil) (by rw [← i.e];exact congrArg (fun l=>tx l) (Ru (fun g=>by have:=one1.2 (by rw [ed];exact g);rw [this.2] at hc;simp at hc)).symm) (fun F ⟨⟨⟨⟨⟨⟨⟨⟨⟨hx,hy⟩,⟨hN,hD⟩⟩,⟨h21,h21p⟩⟩,h26⟩,h33⟩,h39⟩,_⟩,h54⟩,_⟩=>trivial)
  ·
   have hn1:c33.1.1.n≠1:=by simp at hb44;omega
   refine QR rfl rfl rfl<|QR rfl rfl rfl<|QR rfl rfl rfl<|QR rfl rfl rfl<|QA (Qh rfl rfl rfl)<|QF<|QD<|Zw rfl<|QN<|QD<|QG<|QB<|QA (QC rfl)<|QA (XO rfl rfl (by simp;omega))<|QA (QC rfl)<|QH rfl (fun w F hF ⟨⟨⟨⟨⟨⟨⟨hx,hy⟩,⟨hN,hD⟩⟩,⟨h21,h21p⟩⟩,h26⟩,h33⟩,h39⟩,_⟩=>Xy hF (r:=c33.1.1) (l:=c33.1.2) (neg:=false) h33.1.1 (p33.1) (by first | omega | (simp;omega))) (fun c54=>QH rfl (fun w F hF ⟨⟨⟨⟨⟨⟨⟨⟨hx,hy⟩,⟨hN,hD⟩⟩,⟨h21,h21p⟩⟩,h26⟩,h33⟩,h39⟩,_⟩,h54⟩=>E6 hF (zx:=((Rat.divInt i.zn i.zd).den:Int)) (by rw [← ed2];exact h54) (by omega)) (fun _=>QA (XO rfl rfl (by simp;omega))<|QA (QE rfl)<|QF<|QD<|QS ?_))
   exact QQ (()) rfl (.tmp rfl .nil) (by rw [← i.e];exact congrArg (fun l=>tx l) (Ru (fun g=>by have:=one1.2 (by rw [ed];exact g);omega)).symm) (fun F ⟨⟨⟨⟨⟨⟨⟨⟨⟨hx,hy⟩,⟨hN,hD⟩⟩,⟨h21,h21p⟩⟩,h26⟩,h33⟩,h39⟩,_⟩,h54⟩,_⟩=>trivial)
end
end Go.Proofs.YtknegjaeoffnbaaGreatDoor
