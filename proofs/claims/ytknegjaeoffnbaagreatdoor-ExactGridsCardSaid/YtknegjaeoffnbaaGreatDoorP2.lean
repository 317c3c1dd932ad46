/- Steps of the proof of the theorem in the last file. -/
import Derived.Test.YtknegjaeoffnbaaGreatDoorP1
set_option linter.all false
namespace Go.Proofs.YtknegjaeoffnbaaGreatDoor
section
open Go.RowKit Ig
theorem VI.all {l vs:List Value} (h:vs.length=l.length):VI l 0 vs vs:=by
 induction vs generalizing l with
 |nil=>cases l with | nil=>exact .nil | cons=>simp at h
 |cons v vs ih =>
  cases l with
  |nil=>simp at h
  |cons x l=>exact .here (ih (by simpa using h))
theorem PM.all:∀ l:List Value,PM l 0 l
 |[]=>.nil
 |_::l=>.here (PM.all l)
theorem RC:∀ {l:List Value},(∀ v∈l,v.oneCell'=true)→H4 l
 |[],_=>trivial
 |v::l,h=>⟨h v (by simp),RC (fun u hu=>h u (by simp [hu]))⟩
theorem Ln {w:World} {F:Gs} {q:Option Addr} {n c f:Nat} {cs:List Value} {vs:Nat→Value} {es:List Int} {c1 c2:List Value} {G0:Gs→Prop} (hF:Fits F w) (hg:∀ F F',Gs.le F F'→G0 F→G0 F') (h0:G0 F) (hR:JB F q n 1 cs) (hn:es.length=n) (hb:n≤1000000000)
  (hv:∀ i,i<n→cs[i*1]?=some (vs i)) (hc:∀ i (hi:i<es.length) w F,Fits F w→G0 F→QV Tryz.prog f (c1++[vs i]++c2) w F (.int .i64 es[i])) :
  QV Tryz.prog 202 [.slice q n c,.func (.func f) c1.toArray c2.toArray] w F (.int .i64 (Qm es)):=by
 refine QT.intro (G:=fun F=>G0 F∧JB F q n 1 cs) Tryz.func202 rfl (by rfl) rfl rfl hF (fun F' hF'=>⟨hg F F' hF' h0,hR.le hF'⟩)<|QG<|QB<|QA (QE rfl)<|QF<|QC<|QG<|QG<|QB<|QA (QD rfl)<|QA (Qn rfl EJ)<|QA (QD rfl)<|QF<|QC<|Qa<|XU (ι:=HQ n (fun i=>Qm (es.drop i)=Qm es)) (fun i=>[(1,.func (.func f) c1.toArray c2.toArray),(8,.slice q n c),(9,.int .i64 n),(10,.int .i64 i.i)]) (fun _=>[]) (fun _ F=>G0 F∧JB F q n 1 cs) (fun i=>n - i.i) ⟨0,Nat.zero_le _,rfl⟩ ⟨rfl,rfl,rfl,rfl,trivial⟩ (List.Sublist.refl _) (fun _ h=>h) (fun i=>?_)
 have hle:=i.le
 refine QG<|QB<|QA (QU rfl rfl rfl)<|QF<|QC<|QG ?_
 refine QQ rfl (fun hc1=>?_) (fun hc1=>?_)
 ·
  have hi:i.i<n:=by simp at hc1;omega
  have hil:i.i<es.length:=by omega
  refine Xo _ (fun w F hF h=>h.2.ptr (by omega)) (fun hq=>?_)
  obtain ⟨qb,qo,rfl⟩:=hq
  refine QP<|QC<|QG<|Qa<|QG<|QB<|QA (Qx rfl rfl EJ JC hi)<|QA (XY rfl JC (fun F h=>h.2) (by omega) (hv i.i hi))<|QA (QE rfl)<|QF<|QC<|QG<|QB<|QA (QD rfl)<|QA (QD rfl)<|Ga rfl rfl (fun w F hF h=>hc i.i hil w F hF h.1) (fun _=>QA (QE rfl)<|QF<|QC<|QG<|QB<|QA (QD rfl)<|QA (QU rfl rfl rfl)<|QF<|QC ?_)
  refine QQ rfl (fun hc1=>?_) (fun hc1=>?_)
  ·
   refine QG<|QB<|QA (QD rfl)<|QA (QE rfl)<|QF<|QC<|QR ?_
   repeat (first | refine JH ?_ | refine JA ?_)
   exact QN () rfl (.tmp rfl .nil) (congrArg (Value.int .i64) (i.h.symm.trans (Wl hil (by simpa using hc1)))) (fun _ _=>trivial)
  ·
   refine QP<|Ql<|QC<|QB<|QA (Qu rfl rfl (by omega))<|QA (QD rfl)<|QF ?_
   exact Qo (⟨i.i+1,by omega,by rw [← KZ hil (by simpa using hc1)];exact i.h⟩:HQ n (fun i=>Qm (es.drop i)=Qm es)) (by show n - (i.i+1)<n - i.i;omega) ⟨rfl,rfl,rfl,rfl,trivial⟩ (List.Sublist.refl _) (fun _ h=>h.1)
 ·
  refine Q5 ?_
  repeat (first | refine Qc ?_ | refine QX (by rfl) ?_)
  refine Qd<|QC<|QG<|QB<|QA (QE rfl)<|QF<|QC<|QR ?_
  exact QN () rfl (.tmp rfl .nil) (by rw [← i.h,List.drop_of_length_le (by simp at hc1;omega)];rfl) (fun _ _=>trivial)
theorem FR {w:World} {F:Gs} {q:Option Addr} {n c f:Nat} {cs:List Value} {vs:Nat→List Value} {es:List Int} {c1 c2:List Value} {G0:Gs→Prop} (hF:Fits F w) (hg:∀ F F',Gs.le F F'→G0 F→G0 F') (h0:G0 F) (hR:JB F q n 2 cs) (hn:es.length=n) (hb:n≤1000000000)
  (hv:∀ i,i<n→(vs i).length=2∧∀ j v,(vs i)[j]?=some v→cs[i*2+j]?=some v) (h1:∀ i,i<n→∀ v∈vs i,v.oneCell'=true) (hc:∀ i (hi:i<es.length) w F,Fits F w→G0 F→QV Tryz.prog f (c1++[.agg (vs i).toArray]++c2) w F (.int .i64 es[i])) :
  QV Tryz.prog 151 [.slice q n c,.func (.func f) c1.toArray c2.toArray] w F (.int .i64 (Qm es)):=by
 refine QT.intro (G:=fun F=>G0 F∧JB F q n 2 cs) Tryz.func151 rfl (by rfl) rfl rfl hF (fun F' hF'=>⟨hg F F' hF' h0,hR.le hF'⟩)<|QG<|QB<|QA (QE rfl)<|QF<|QC<|QG<|QG<|QB<|QA (QD rfl)<|QA (Qn rfl TZ)<|QA (QD rfl)<|QF<|QC<|Qa<|XU (ι:=HQ n (fun i=>Qm (es.drop i)=Qm es)) (fun i=>[(1,.func (.func f) c1.toArray c2.toArray),(8,.slice q n c),(9,.int .i64 n),(10,.int .i64 i.i)]) (fun _=>[]) (fun _ F=>G0 F∧JB F q n 2 cs) (fun i=>n - i.i) ⟨0,Nat.zero_le _,rfl⟩ ⟨rfl,rfl,rfl,rfl,trivial⟩ (List.Sublist.refl _) (fun _ h=>h) (fun i=>?_)
 have hle:=i.le
 refine QG<|QB<|QA (QU rfl rfl rfl)<|QF<|QC<|QG ?_
 refine QQ rfl (fun hc1=>?_) (fun hc1=>?_)
 ·
  have hi:i.i<n:=by simp at hc1;omega
  have hil:i.i<es.length:=by omega
  refine Xo _ (fun w F hF h=>h.2.ptr (by omega)) (fun hq=>?_)
  obtain ⟨qb,qo,rfl⟩:=hq
  refine QP<|QC<|QG<|Qa<|QG<|QB<|QA (Qx rfl rfl TZ JW hi)<|QA (Dj rfl JW (fun F h=>h.2) (by omega) (hv i.i hi).1 (hv i.i hi).2)<|QZ Zg (fun b6=>QS (vs:=vs i.i) (l':=vs i.i) rfl rfl rfl JW (hv i.i hi).1 .here (VI.all (hv i.i hi).1) (RC (h1 i.i hi))<|QF<|QC<|QG<|QB<|QA (QD rfl)<|QA (QJ (vs:=vs i.i) rfl JW .here (PM.all _) (hv i.i hi).1)<|Ga rfl rfl (fun w F hF h=>hc i.i hil w F hF h.1) (fun _=>QA (QE rfl)<|QF<|QC<|QG<|QB<|QA (QD rfl)<|QA (QU rfl rfl rfl)<|QF ?_))
  refine QC ?_
  refine QQ rfl (fun hc1=>?_) (fun hc1=>?_)
  ·
   refine QG<|QB<|QA (QD rfl)<|QA (QE rfl)<|QF<|QC<|QR ?_
   repeat (first | refine JH ?_ | refine JA ?_)
   exact QN () rfl (.tmp rfl .nil) (congrArg (Value.int .i64) (i.h.symm.trans (Wl hil (by simpa using hc1)))) (fun _ _=>trivial)
  ·
   refine QP<|Ql<|QC<|QB<|QA (Qu rfl rfl (by omega))<|QA (QD rfl)<|QF ?_
   exact Qo (⟨i.i+1,by omega,by rw [← KZ hil (by simpa using hc1)];exact i.h⟩:HQ n (fun i=>Qm (es.drop i)=Qm es)) (by show n - (i.i+1)<n - i.i;omega) ⟨rfl,rfl,rfl,rfl,trivial⟩ (List.sublist_cons_self _ _) (fun _ h=>h.1)
 ·
  refine Q5 ?_
  repeat (first | refine Qc ?_ | refine QX (by rfl) ?_)
  refine Qd<|QC<|QG<|QB<|QA (QE rfl)<|QF<|QC<|QR ?_
  exact QN () rfl (.tmp rfl .nil) (by rw [← i.h,List.drop_of_length_le (by simp at hc1;omega)];rfl) (fun _ _=>trivial)
theorem qO {w:World} {F:Gs} {q:Option Addr} {n c:Nat} {l:List (List UInt8)} (hF:Fits F w) (hG:JF F) (hR:JB F q n 1 (l.map tx)) (hl:n≤1000000∧∀ s∈l,s.length≤1000000):QV Tryz.prog 121 [.slice q n c] w F (.int .i64 (Qm (l.map Jg))):=by
 have hln:l.length=n:=by have:=hR.1;simpa using this
 refine QT.intro (G:=fun F=>JF F∧JB F q n 1 (l.map tx)) Tryz.func121 rfl (by rfl) rfl rfl hF (fun F' hF'=>⟨hG.le hF',hR.le hF'⟩)<|QG<|QB<|QA (QE rfl)<|QF<|QC<|QG<|QB<|QA (QD rfl) ?_
 refine QH rfl (fun w F hF ⟨hGl,hR⟩=>Ln (c1:=[]) (c2:=[]) (vs:=fun i=>tx (l.getD i [])) (es:=l.map Jg) (G0:=JF) hF (fun _ _ h k=>k.le h) hGl hR (by simpa using hln) (by omega) (fun i hi=>by
  have:i<l.length:=by omega
  simp [this]) (fun i hi w F hF hG=>by
  have hi':i<l.length:=by simpa using hi
  have e:l.getD i []=l[i]:=by simp [hi']
  have:=MO hF hG (hl.2 l[i] (List.getElem_mem hi'))
  rw [List.getElem_map]
  show QV _ _ [tx (l.getD i [])] _ _ _
  rw [e];exact this)) (fun c4=>?_)
 refine QA (QE rfl)<|QF<|QC<|QR ?_
 exact QN () rfl (.tmp rfl .nil) rfl (fun _ _=>trivial)
def GQ (r:Rat):List UInt8×Int:=if Xd r=true then([],4) else(Qy r,0)
theorem C6 {w:World} {F:Gs} {x:Fr} {r:Rat} (hF:Fits F w) (hG:JF F) (h:Jc F x r) (hz:JQ r≤100000000):QV Tryz.prog 106 [x.v] w F (.tuple #[tx (GQ r).1,.int .i64 (GQ r).2]):=by
 refine QT.intro (G:=fun F=>JF F∧Jc F x r) Tryz.func106 rfl (by rfl) rfl rfl hF (fun F' hF'=>⟨hG.le hF',h.le hF'⟩)<|QG<|QB<|Qz rfl (vs:=[_,_,_,_]) rfl (fun b1=>QA (QE rfl)<|QA (QE rfl)<|QF<|QC<|QG<|QG<|QB<|QA (QJ (vs:=[_,_,_,_]) rfl Qg .here (.here (.here (.here (.here .nil)))) rfl)<|QH rfl (fun w F hF ⟨hGl,⟨hn,hd⟩⟩=>B5 (x:=x) (r:=r) hF hGl ⟨hn,hd⟩ hz) (fun _=>QF<|QC ?_))
 refine QQ rfl (fun hc=>?_) (fun hc=>?_)
 ·
  refine QG<|QB<|QA (QE rfl)<|QA (QE rfl)<|QF<|QC<|QR ?_
  exact Jb () rfl (.tmp rfl (.tmp rfl .nil)) (by unfold GQ;rw [if_pos hc]) (fun _ _=>trivial)
 ·
  refine QP<|QC<|QG<|QB<|QA (QJ (vs:=[_,_,_,_]) rfl Qg .here (.here (.here (.here (.here .nil)))) rfl)<|QH rfl (fun w F hF ⟨⟨hGl,⟨hn,hd⟩⟩,_⟩=>MJ (x:=x) (r:=r) hF hGl ⟨hn,hd⟩ hz) (fun _=>QA (QE rfl)<|QA (QE rfl)<|QF<|QC<|QR ?_)
  exact Jb () rfl (.tmp rfl (.tmp rfl .nil)) (by unfold GQ;rw [if_neg (by rw [hc];decide)]) (fun _ _=>trivial)
theorem U7 {w:World} {F:Gs} {b:Int} (hF:Fits F w):QV Tryz.prog 105 [.int .i64 b] w F (.int .i64 (if b<0∨b>64 then 3 else 0)):=by
 refine QT.intro (G:=fun _=>True) Tryz.func105 rfl (by rfl) rfl rfl hF (fun F' hF'=>trivial)<|QG<|QB<|QA (QE rfl)<|QF<|QC<|QG<|QB<|QA (QD rfl)<|QA (QU rfl rfl rfl)<|QA (QD rfl) ?_
 refine Qk (t:=5) rfl (fun hb5=>?_) (fun hb5=>?_)
 ·
  refine QO rfl rfl rfl<|QO rfl rfl rfl<|QA (Qj rfl rfl rfl)<|QH rfl (fun w F hF _=>Zz hF ) (fun _=>QA (QE rfl)<|QF<|QC<|QR ?_)
  exact QN () rfl (.tmp rfl .nil) (congrArg (Value.int .i64) (by simp at *;try omega)) (fun _ _=>trivial)
 ·
  refine QL rfl rfl<|QA (QD rfl)<|QL rfl rfl<|QA (QU rfl rfl rfl)<|QA (Qh rfl rfl rfl)<|QH rfl (fun w F hF _=>Zz hF ) (fun _=>QA (QE rfl)<|QF<|QC<|QR ?_)
  exact QN () rfl (.tmp rfl .nil) (congrArg (Value.int .i64) (by simp at *;try omega)) (fun _ _=>trivial)
theorem FI {w:World} {F:Gs} {b:Int} (hF:Fits F w) (h0:0≤b) (h1:b≤64):Xj Tryz.prog 111 [.int .i64 b] w F (2^b.toNat):=by
 refine QT.intro (G:=fun _=>True) Tryz.func111 rfl (by rfl) rfl rfl hF (fun F' hF'=>trivial)<|QG<|QB<|QZ ZW (fun b2=>QF<|QC<|QG<|QB<|QH rfl (fun w F hF _=>NS hF (by omega) (by omega)) (fun g3=>QA (QD rfl)<|QH rfl (fun w F hF ⟨_,h3⟩=>Ty hF (by assumption) h0 (by omega) (by have e:sz 2=2:=(by decide);rw [e];omega)) (fun g5=>QS (vs:=[_,_]) rfl rfl rfl Qb rfl .here (.here (.here .nil)) ⟨rfl,rfl,trivial⟩<|QF<|QC<|QR ?_)))
 exact QN (_) rfl (.JX (c:=[_,_]) rfl Qb .here .nil) rfl (fun F ⟨⟨_,h3⟩,h5⟩=>h5)
theorem NQ {w:World} {F:Gs} {g:Bg} {a b:Int} (hF:Fits F w) (h:Js F g a) (h0:0≤b) (h1:b≤64) (hz:sz a≤100000000):ZV Tryz.prog 107 [g.v,.int .i64 b] w F (Rat.divInt a (2^b.toNat)):=by
 refine QT.intro (G:=fun F=>Js F g a) Tryz.func107 rfl (by rfl) rfl rfl hF (fun F' hF'=>h.le hF')<|QG<|QB<|Qz rfl (vs:=[_,_]) rfl (fun b2=>QZ X7 (fun b4=>QF<|QC<|QG<|JG (.cons _ (.cons_cons _ .slnil)) mixed (by kernel_rfl)<|QK (QJ (vs:=[_,_]) rfl Qb .here (.here (.here .nil)) rfl)<|QK (QD rfl)<|QY rfl (fun w F hF hB=>FI hF h0 h1) (fun g7=>QY rfl (fun w F hF ⟨hB,h7⟩=>Nd hF hB (by assumption) (Int.ne_of_gt (Int.pow_pos (by decide))) (Nat.le_trans hz (by decide)) (by have:=Hr 2 b.toNat;have e:sz 2=2:=(by decide);rw [e] at this;omega)) (fun x8=>JU (vs:=[_,_,_,_]) rfl rfl rfl Qg rfl .here (.cons_cons _ .slnil) (fun _ h=>h.1.1) (.here (.here (.here (.here .nil)))) ⟨rfl,rfl,rfl,rfl,trivial⟩<|Q2<|QC<|QR ?_))))
 exact QN (_) rfl (.JX (c:=[_,_,_,_]) rfl Qg .here .nil) rfl (fun F ⟨⟨hB,h7⟩,⟨h8,h8_⟩⟩=>⟨h8,h8_⟩)
end
section
open Go.RowKit Ig
def YP (b:Int):Int:=if b<0∨b>64 then 3 else 0
theorem ZG {a b:Int} (h:Qm [a,b]=0):a=0∧b=0:=by
 simp only [Qm] at h
 by_cases h1:a=0
 ·rw [if_pos h1] at h
  by_cases h2:b=0
  ·exact⟨h1,h2⟩
  ·rw [if_neg h2] at h;exact absurd h h2
 ·rw [if_neg h1] at h;exact absurd h h1
theorem DO {b:Int} (h:YP b=0):0≤b∧b≤64:=by unfold YP at h;split at h<;>omega
def two (b:Int):Int:=2^b.toNat
theorem OX {b:Int} (h1:b≤64):sz (two b)≤129:=by
 have:=Hr 2 b.toNat;have e:sz 2=2:=(by decide);rw [e] at this;unfold two;omega
theorem Rr {b:Int} (h1:b≤64):JQ ((two b:Int):Rat)≤129:=by
 have:=Gi (two b);have:=OX h1;omega
def W4 (r:Rat) (b:Int):Rat:=Rat.divInt (r*((two b:Int):Rat)+Rat.divInt 1 2).floor (two b)
def Y2 (s:List UInt8) (b:Int):List UInt8×Int:=if Qm [Jg s,YP b]=0 then GQ (W4 (JM s) b) else([],Qm [Jg s,YP b])
theorem zW (b:Int):two b≠0:=Int.ne_of_gt (Int.pow_pos (by decide))
theorem Is:JQ (Rat.divInt 1 2)≤2:=by
 have:=Yd (a:=1) (b:=2) (by decide)
 have e1:sz 1=1:=by decide
 have e2:sz 2=2:=by decide
 omega
theorem ID {r:Rat} {b:Int} {k:Nat} (h:JQ r≤k) (h1:b≤64):sz (r*((two b:Int):Rat)+Rat.divInt 1 2).floor≤k+132:=by
 have a:=Jz r ((two b:Int):Rat)
 have c:=Vr (r*((two b:Int):Rat)) (Rat.divInt 1 2)
 have d:=Is
 have e:=Rr h1
 have f:=WD (r*((two b:Int):Rat)+Rat.divInt 1 2)
 omega
theorem BQ {n b:Int} {k:Nat} (h:sz n≤k) (h1:b≤64):JQ (Rat.divInt n (two b))≤max k 129:=by
 have:=Yd (a:=n) (zW b)
 have:=OX h1
 omega
theorem RI {w:World} {F:Gs} {s:List UInt8} {b:Int} (hF:Fits F w) (hG:JF F) (hl:s.length≤1000000):QV Tryz.prog 17 [tx s,.int .i64 b] w F (.tuple #[tx (Y2 s b).1,.int .i64 (Y2 s b).2]):=by
 refine QT.intro (G:=fun F=>JF F) Tryz.func17 rfl (by rfl) rfl rfl hF (fun F' hF'=>hG.le hF')<|QG<|QB<|QA (QE rfl)<|QA (QE rfl)<|QF<|QC<|QG<|QG<|QB<|QA (QD rfl)<|QH rfl (fun w F hF hGl=>MO hF hGl hl) (fun _=>QA (QD rfl)<|QH rfl (fun w F hF ⟨hGl,_⟩=>U7 hF ) (fun _=>QW rfl (Q8 Zq) KC BI rfl rfl (fun b11=>QH rfl (fun w F hF ⟨⟨⟨hGl,_⟩,_⟩,hs11⟩=>YE hF (JB.of (cs:=List.map Q3 [Jg s,YP b]) hs11 rfl) (by decide)) (fun _=>QA (QE rfl)<|QF<|QC<|QG<|QB<|QA (QD rfl)<|QA (QU rfl rfl rfl)<|QF<|QC ?_))))
 refine QQ rfl (fun hc=>?_) (fun hc=>?_)
 ·
  refine QG<|QB<|QA (QD rfl)<|QA (QE rfl)<|QA (QE rfl)<|QF<|QC<|QR ?_
  exact Jb () rfl (.tmp rfl (.tmp rfl .nil)) (by unfold Y2;rw [if_neg (by simpa using hc)]) (fun _ _=>trivial)
 ·
  have h0:Qm [Jg s,YP b]=0:=by simpa using hc
  have h1:=ZG h0
  have hb:=DO h1.2
  have hz:=J4 h1.1
  have ht:=Rr hb.2
  have hm:=Jz (JM s) ((two b:Int):Rat)
  have hn:=ID hz hb.2
  refine QP<|QC<|QG<|QB<|QA (QD rfl)<|QH rfl (fun w F hF ⟨⟨⟨⟨hGl,_⟩,_⟩,hs11⟩,_⟩=>H9 hF hGl (Xs h1.1).1 (by omega)) (fun x17=>QA (QD rfl)<|QH rfl (fun w F hF ⟨⟨⟨⟨⟨hGl,_⟩,_⟩,hs11⟩,_⟩,⟨h17,h17_⟩⟩=>FI hF hb.1 hb.2) (fun g19=>QH rfl (fun w F hF ⟨⟨⟨⟨⟨⟨hGl,_⟩,_⟩,hs11⟩,_⟩,⟨h17,h17_⟩⟩,B1⟩=>BM hF (by assumption)) (fun x20=>QH rfl (fun w F hF ⟨⟨⟨⟨⟨⟨⟨hGl,_⟩,_⟩,hs11⟩,_⟩,⟨h17,h17_⟩⟩,B1⟩,⟨h20,h20_⟩⟩=>Km (r:=JM s) (s:=((two b:Int):Rat)) hF ⟨h17,h17_⟩ ⟨h20,h20_⟩ (by omega) (by omega)) (fun x21=>QH rfl (fun w F hF ⟨⟨⟨⟨⟨⟨⟨⟨hGl,_⟩,_⟩,hs11⟩,_⟩,⟨h17,h17_⟩⟩,B1⟩,⟨h20,h20_⟩⟩,⟨h21,h21_⟩⟩=>C7 (r:=JM s*((two b:Int):Rat)) hF ⟨h21,h21_⟩ (by omega)) (fun g22=>QA (QD rfl)<|QH rfl (fun w F hF ⟨⟨⟨⟨⟨⟨⟨⟨⟨hGl,_⟩,_⟩,hs11⟩,_⟩,⟨h17,h17_⟩⟩,B1⟩,⟨h20,h20_⟩⟩,⟨h21,h21_⟩⟩,h22⟩=>NQ (a:=(JM s*((two b:Int):Rat)+Rat.divInt 1 2).floor) hF h22 hb.1 hb.2 (by omega)) (fun x24=>QH rfl (fun w F hF ⟨⟨⟨⟨⟨⟨⟨⟨⟨⟨hGl,_⟩,_⟩,hs11⟩,_⟩,⟨h17,h17_⟩⟩,B1⟩,⟨h20,h20_⟩⟩,⟨h21,h21_⟩⟩,h22⟩,⟨h24,h24_⟩⟩=>C6 (r:=W4 (JM s) b) hF hGl ⟨h24,h24_⟩ (by have:=BQ hn hb.2;unfold W4;omega)) (fun _=>QA (QM rfl rfl)<|QA (QM rfl rfl)<|QA (QE rfl)<|QA (QE rfl)<|QF<|QC<|QR ?_)))))))
  exact Jb () rfl (.tmp rfl (.tmp rfl .nil)) (by unfold Y2;rw [if_pos h0];rfl) (fun _ _=>trivial)
def Jl (lo hi:List UInt8):Int:=if Qm [Jg lo,Jg hi]=0 then(if DL (JM lo) (JM hi)>0 then 11 else 0) else Qm [Jg lo,Jg hi]
theorem Ys {lo hi:List UInt8} (h:Jl lo hi=0):Jg lo=0∧Jg hi=0∧¬ DL (JM lo) (JM hi)>0:=by
 unfold Jl at h
 split at h
 ·rename_i h0
  have:=ZG h0
  refine⟨this.1,this.2,?_⟩
  split at h
  ·cases h
  ·assumption
 ·rename_i h0;exact absurd h h0
theorem Yr {w:World} {F:Gs} {lo hi:List UInt8} (hF:Fits F w) (hG:JF F) (hl:lo.length≤1000000∧hi.length≤1000000):QV Tryz.prog 22 [.agg #[tx lo,tx hi]] w F (.int .i64 (Jl lo hi)):=by
 refine QT.intro (G:=fun F=>JF F) Tryz.func22 rfl (by rfl) rfl rfl hF (fun F' hF'=>hG.le hF')<|QG<|QB<|Qz rfl (vs:=[_,_]) rfl (fun b1=>QA (QE rfl)<|QF<|QC<|QG<|QG<|QB<|QA (QI rfl Zc JC)<|QA (Qi rfl JC .here (.here .nil))<|QA (QI rfl YO JC)<|QA (Qi rfl JC .here (.skip (.here .nil)))<|QW rfl (Q8 EJ) JC kI rfl rfl (fun b8=>QH rfl (fun w F hF ⟨hGl,hs8⟩=>qO (l:=[lo,hi]) hF hGl (JB.of (cs:=List.map tx [lo,hi]) hs8 rfl) ⟨by decide,fun s hs=>by simp at hs;rcases hs with rfl | rfl;exact hl.1;exact hl.2⟩) (fun _=>QA (QE rfl)<|QF<|QC<|QG<|QB<|QA (QD rfl)<|QA (QU rfl rfl rfl)<|QF<|QC ?_)))
 refine QQ rfl (fun hc=>?_) (fun hc=>?_)
 ·
  refine QG<|QB<|QA (QD rfl)<|QA (QE rfl)<|QF<|QC<|QR ?_
  exact QN () rfl (.tmp rfl .nil) (by unfold Jl;rw [if_neg (by simpa using hc)];rfl) (fun _ _=>trivial)
 ·
  have h0:Qm [Jg lo,Jg hi]=0:=by simpa using hc
  have h1:=ZG h0
  have hz1:=J4 h1.1
  have hz2:=J4 h1.2
  refine QP<|QC<|QG<|JG (List.Sublist.refl _) mixed (by kernel_rfl)<|QK (QI rfl Zc JC)<|QK (Qi rfl JC .here (.here .nil))<|QY rfl (fun w F hF ⟨⟨hGl,hs8⟩,_⟩=>H9 hF hGl (Xs h1.1).1 (by omega)) (fun x15=>QK (QI rfl YO JC)<|QK (Qi rfl JC .here (.skip (.here .nil)))<|QY rfl (fun w F hF ⟨⟨⟨hGl,hs8⟩,_⟩,⟨h15,h15_⟩⟩=>H9 hF hGl (Xs h1.2).1 (by omega)) (fun x18=>QY rfl (fun w F hF ⟨⟨⟨⟨hGl,hs8⟩,_⟩,⟨h15,h15_⟩⟩,⟨h18,h18_⟩⟩=>FO (r:=JM lo) (s:=JM hi) hF ⟨h15,h15_⟩ ⟨h18,h18_⟩ (by omega) (by omega)) (fun _=>QK (QU rfl rfl rfl)<|QY rfl (fun w F hF ⟨⟨⟨⟨⟨hGl,hs8⟩,_⟩,⟨h15,h15_⟩⟩,⟨h18,h18_⟩⟩,_⟩=>Zz hF ) (fun _=>QK (QE rfl)<|Q2<|QC<|QR ?_))))
  exact QN () rfl (.tmp rfl .nil) (congrArg (Value.int .i64) (by unfold Jl;rw [if_pos h0];simp)) (fun _ _=>trivial)
structure Sp where
 lo:Fr
 hi:Fr
@[reducible] def Sp.v (x:Sp):Value:=.agg #[.int .i64 x.lo.n.s,.slice x.lo.n.q x.lo.n.n x.lo.n.cap,.int .i64 x.lo.d.s,.slice x.lo.d.q x.lo.d.n x.lo.d.cap,.int .i64 x.hi.n.s,.slice x.hi.n.q x.hi.n.n x.hi.n.cap,.int .i64 x.hi.d.s,.slice x.hi.d.q x.hi.d.n x.hi.d.cap]
def ZT (F:Gs) (x:Sp) (r:Rat×Rat):Prop:=Jc F x.lo r.1∧Jc F x.hi r.2
theorem ZT.le {F F':Gs} {x:Sp} {r:Rat×Rat} (h:ZT F x r) (k:Gs.le F F'):ZT F' x r:=⟨h.1.le k,h.2.le k⟩
abbrev VJ (P:Program) (f:FuncId) (args:List Value) (w:World) (F:Gs) (r:Rat×Rat):Prop:=QT P f args w F Sp.v (fun x F=>ZT F x r)
theorem NO {w:World} {F:Gs} {lo hi:List UInt8} (hF:Fits F w) (hG:JF F) (h1:Jg lo=0) (h2:Jg hi=0) (hl:lo.length≤1000000∧hi.length≤1000000):VJ Tryz.prog 113 [.agg #[tx lo,tx hi]] w F (JM lo,JM hi):=by
 refine QT.intro (G:=fun F=>JF F) Tryz.func113 rfl (by rfl) rfl rfl hF (fun F' hF'=>hG.le hF')<|QG<|QB<|Qz rfl (vs:=[_,_]) rfl (fun b1=>QZ KB (fun b2=>QF<|QC<|QG<|JG (.cons _ (.cons_cons _ .slnil)) mixed (by kernel_rfl)<|QK (QI rfl Zc JC)<|QK (Qi rfl JC .here (.here .nil))<|QY rfl (fun w F hF hGl=>H9 hF hGl (Xs h1).1 (by omega)) (fun x5=>QK (QI rfl YO JC)<|QK (Qi rfl JC .here (.skip (.here .nil)))<|QY rfl (fun w F hF ⟨hGl,⟨h5,h5_⟩⟩=>H9 hF hGl (Xs h2).1 (by omega)) (fun x8=>QK (Q4 rfl SF KB (.cons (vs:=[_,_,_,_]) rfl rfl rfl (.here (.here (.here (.here .nil)))) (.cons (vs:=[_,_,_,_]) rfl rfl rfl (.skip (.skip (.skip (.skip (.here (.here (.here (.here .nil)))))))) .nil)))<|JU (vs:=[_,_,_,_,_,_,_,_]) rfl rfl rfl XN rfl .here (.cons_cons _ .slnil) (fun _ h=>h.1.1) (.here (.here (.here (.here (.here (.here (.here (.here .nil)))))))) ⟨rfl,rfl,rfl,rfl,rfl,rfl,rfl,rfl,trivial⟩<|Q2<|QC<|QR ?_))))
 exact QN ((⟨x5,x8⟩:Sp)) rfl (.JX (c:=[_,_,_,_,_,_,_,_]) rfl XN .here .nil) rfl (fun F ⟨⟨hGl,⟨h5,h5_⟩⟩,⟨h8,h8_⟩⟩=>⟨⟨h5,h5_⟩,⟨h8,h8_⟩⟩)
def Vx (r:Rat×Rat):(List UInt8×List UInt8)×Int:=if(Xd r.1||Xd r.2)=true then(([],[]),4) else((Qy r.1,Qy r.2),0)
theorem E9 {w:World} {F:Gs} {x:Sp} {r:Rat×Rat} (hF:Fits F w) (hG:JF F) (h:ZT F x r) (hz:JQ r.1≤100000000∧JQ r.2≤100000000):QV Tryz.prog 116 [x.v] w F (.tuple #[.agg #[tx (Vx r).1.1,tx (Vx r).1.2],.int .i64 (Vx r).2]):=by
 refine QT.intro (G:=fun F=>JF F∧ZT F x r) Tryz.func116 rfl (by rfl) rfl rfl hF (fun F' hF'=>⟨hG.le hF',h.le hF'⟩)<|QG<|QB<|Qz rfl (vs:=[_,_,_,_,_,_,_,_]) rfl (fun b1=>QZ Zg (fun b2=>QA (QE rfl)<|QF<|QC<|QG ?_))
 refine Vi 11 (.bool (Xd r.1||Xd r.2)) ?_ ?_
 ·
  refine QB<|QA (QI rfl Zw Qg)<|QA (QJ (vs:=[_,_,_,_]) rfl Qg (.there .here) (.here (.here (.here (.here .nil)))) rfl)<|QH rfl (fun w F hF ⟨hGl,⟨⟨ha,hb⟩,⟨hc1,hd⟩⟩⟩=>B5 (x:=x.lo) (r:=r.1) hF hGl ⟨ha,hb⟩ hz.1) (fun _=>QA (QD rfl) ?_)
  refine Qk (t:=7) rfl (fun hb7=>?_) (fun hb7=>?_)
  ·
   refine QO rfl rfl rfl<|QO rfl rfl rfl<|QO rfl rfl rfl<|QA (Qj rfl rfl rfl)<|QF ?_
   exact Jr (.cons rfl (.cons rfl (.cons rfl (.cons rfl (.cons rfl (.cons rfl (.cons rfl (.cons rfl (.cons rfl .refl))))))))) (congrArg (fun b=>some (Value.bool b)) (by simp_all)) (List.Sublist.refl _) (fun _ h=>h.1)
  ·
   refine QL rfl rfl<|QA (QI rfl YG Qg)<|QL rfl rfl<|QA (QJ (vs:=[_,_,_,_]) rfl Qg (.there .here) (.skip (.skip (.skip (.skip (.here (.here (.here (.here .nil)))))))) rfl)<|QL rfl rfl<|QH rfl (fun w F hF ⟨⟨hGl,⟨⟨ha,hb⟩,⟨hc1,hd⟩⟩⟩,_⟩=>B5 (x:=x.hi) (r:=r.2) hF hGl ⟨hc1,hd⟩ hz.2) (fun _=>QA (Qh rfl rfl rfl)<|QF ?_)
   exact Jr (.cons rfl (.cons rfl (.cons rfl (.cons rfl (.cons rfl (.cons rfl (.cons rfl (.cons rfl (.cons rfl .refl))))))))) (congrArg (fun b=>some (Value.bool b)) (by simp_all)) (List.Sublist.refl _) (fun _ h=>h.1.1)
 ·
  refine QQ rfl (fun hc=>?_) (fun hc=>?_)
  ·
   refine QG<|QB<|QA (Q4 rfl YI Zg .nil)<|QS (vs:=[_,_]) rfl rfl rfl JW rfl .here (.here (.here .nil)) ⟨rfl,rfl,trivial⟩<|QA (QE rfl)<|QF<|QC<|QR ?_
   exact Jb () rfl (.JX (c:=[_,_]) rfl JW .here (.tmp rfl .nil)) (by unfold Vx;rw [if_pos hc];rfl) (fun _ _=>trivial)
  ·
   refine QP<|QC<|QG<|JG (.cons _ (.cons_cons _ .slnil)) mixed (by kernel_rfl)<|QK (QI rfl Zw Qg)<|QK (QJ (vs:=[_,_,_,_]) rfl Qg .here (.here (.here (.here (.here .nil)))) rfl)<|QY rfl (fun w F hF ⟨hGl,⟨⟨ha,hb⟩,⟨hc1,hd⟩⟩⟩=>MJ (x:=x.lo) (r:=r.1) hF hGl ⟨ha,hb⟩ hz.1) (fun _=>QK (QI rfl YG Qg)<|QK (QJ (vs:=[_,_,_,_]) rfl Qg .here (.skip (.skip (.skip (.skip (.here (.here (.here (.here .nil)))))))) rfl)<|QY rfl (fun w F hF ⟨⟨hGl,⟨⟨ha,hb⟩,⟨hc1,hd⟩⟩⟩,_⟩=>MJ (x:=x.hi) (r:=r.2) hF hGl ⟨hc1,hd⟩ hz.2) (fun _=>QK (Q4 rfl YI Zg (.cons (vs:=[_]) rfl rfl rfl (.here .nil) (.cons (vs:=[_]) rfl rfl rfl (.skip (.here .nil)) .nil)))<|JU (vs:=[_,_]) rfl rfl rfl JW rfl .here (.cons_cons _ .slnil) (fun _ h=>h.1.1) (.here (.here .nil)) ⟨rfl,rfl,trivial⟩<|QK (QE rfl)<|Q2<|QC<|QR ?_))
   exact Jb () rfl (.JX (c:=[_,_]) rfl JW .here (.tmp rfl .nil)) (by unfold Vx;rw [if_neg (by rw [hc];decide)]) (fun _ _=>trivial)
def T6 (r:Rat×Rat) (b:Int):Rat×Rat:=(Rat.divInt (r.1*((two b:Int):Rat)).floor (two b),Rat.divInt (-(-(r.2*((two b:Int):Rat))).floor) (two b))
def YA (lo hi:List UInt8) (b:Int):(List UInt8×List UInt8)×Int:=if Qm [Jl lo hi,YP b]=0 then Vx (T6 (JM lo,JM hi) b) else(([],[]),Qm [Jl lo hi,YP b])
theorem RB {w:World} {F:Gs} {lo hi:List UInt8} {b:Int} (hF:Fits F w) (hG:JF F) (hl:lo.length≤1000000∧hi.length≤1000000):QV Tryz.prog 18 [.agg #[tx lo,tx hi],.int .i64 b] w F (.tuple #[.agg #[tx (YA lo hi b).1.1,tx (YA lo hi b).1.2],.int .i64 (YA lo hi b).2]):=by
 refine QT.intro (G:=fun F=>JF F) Tryz.func18 rfl (by rfl) rfl rfl hF (fun F' hF'=>hG.le hF')<|QG<|QB<|Qz rfl (vs:=[_,_]) rfl (fun b2=>QZ Zg (fun b4=>QA (QE rfl)<|QF<|QC<|QG<|QG<|QB<|QA (QJ (vs:=[_,_]) rfl JW (.there .here) (.here (.here .nil)) rfl)<|QH rfl (fun w F hF hGl=>Yr (lo:=lo) (hi:=hi) hF hGl hl) (fun _=>QA (QD rfl)<|QH rfl (fun w F hF ⟨hGl,_⟩=>U7 hF ) (fun _=>QW rfl (Q8 Zq) KC BI rfl rfl (fun b13=>QH rfl (fun w F hF ⟨⟨⟨hGl,_⟩,_⟩,hs13⟩=>YE hF (JB.of (cs:=List.map Q3 [Jl lo hi,YP b]) hs13 rfl) (by decide)) (fun _=>QA (QE rfl)<|QF<|QC<|QG<|QB<|QA (QD rfl)<|QA (QU rfl rfl rfl)<|QF ?_))))))
 refine QC ?_
 refine QQ rfl (fun hc=>?_) (fun hc=>?_)
 ·
  refine QG<|QB<|QA (Q4 rfl YI Zg .nil)<|QA (QD rfl)<|QS (vs:=[_,_]) rfl rfl rfl JW rfl .here (.here (.here .nil)) ⟨rfl,rfl,trivial⟩<|QA (QE rfl)<|QF<|QC<|QR ?_
  exact Jb () rfl (.JX (c:=[_,_]) rfl JW .here (.tmp rfl .nil)) (by unfold YA;rw [if_neg (by simpa using hc)];rfl) (fun _ _=>trivial)
 ·
  have h0:Qm [Jl lo hi,YP b]=0:=by simpa using hc
  have h1:=ZG h0
  have hok:=Ys h1.1
  have hb:=DO h1.2
  have hz1:=J4 hok.1
  have hz2:=J4 hok.2.1
  have ht:=Rr hb.2
  have hm1:=Jz (JM lo) ((two b:Int):Rat)
  have hm2:=Jz (JM hi) ((two b:Int):Rat)
  have hf1:=WD (JM lo*((two b:Int):Rat))
  have hf2:=WD (-(JM hi*((two b:Int):Rat)))
  rw [Ky] at hf2
  have hg1:=BQ (n:=(JM lo*((two b:Int):Rat)).floor) (k:=2529) (by omega) hb.2
  have hg2:=BQ (n:=-(-(JM hi*((two b:Int):Rat))).floor) (k:=2529) (by rw [YK];omega) hb.2
  refine QP<|QC<|QG<|QB<|QA (QJ (vs:=[_,_]) rfl JW (.there .here) (.here (.here .nil)) rfl)<|QH rfl (fun w F hF ⟨⟨⟨⟨hGl,_⟩,_⟩,hs13⟩,_⟩=>NO hF hGl hok.1 hok.2.1 hl) (fun x20=>QA (QD rfl)<|QH rfl (fun w F hF ⟨⟨⟨⟨⟨hGl,_⟩,_⟩,hs13⟩,_⟩,⟨⟨h20,h20_⟩,⟨h20a,h20b⟩⟩⟩=>FI hF hb.1 hb.2) (fun g22=>QH rfl (fun w F hF ⟨⟨⟨⟨⟨⟨hGl,_⟩,_⟩,hs13⟩,_⟩,⟨⟨h20,h20_⟩,⟨h20a,h20b⟩⟩⟩,h22⟩=>BM hF (by assumption)) (fun x23=>QZ KB (fun b7=>QZ X7 (fun b8=>QS (vs:=[_,_,_,_,_,_,_,_]) rfl rfl rfl XN rfl (.there .here) (.here (.here (.here (.here (.here (.here (.here (.here .nil)))))))) ⟨rfl,rfl,rfl,rfl,rfl,rfl,rfl,rfl,trivial⟩<|QS (vs:=[_,_,_,_]) rfl rfl rfl Qg rfl .here (.here (.here (.here (.here .nil)))) ⟨rfl,rfl,rfl,rfl,trivial⟩<|QF<|QC<|QG<|JG (.cons_cons _ (.cons_cons _ (.cons _ (.cons_cons _ .slnil)))) mixed (by kernel_rfl)<|QK (QI rfl Zw Qg)<|QK (QJ (vs:=[_,_,_,_]) rfl Qg (.there .here) (.here (.here (.here (.here .nil)))) rfl)<|QK (QJ (vs:=[_,_,_,_]) rfl Qg .here (.here (.here (.here (.here .nil)))) rfl)<|QY rfl (fun w F hF ⟨⟨⟨⟨⟨⟨⟨hGl,_⟩,_⟩,hs13⟩,_⟩,⟨⟨h20,h20_⟩,⟨h20a,h20b⟩⟩⟩,h22⟩,⟨h23,h23_⟩⟩=>Km (r:=JM lo) (s:=((two b:Int):Rat)) hF ⟨h20,h20_⟩ ⟨h23,h23_⟩ (by omega) (by omega)) (fun x27=>QY rfl (fun w F hF ⟨⟨⟨⟨⟨⟨⟨⟨hGl,_⟩,_⟩,hs13⟩,_⟩,⟨⟨h20,h20_⟩,⟨h20a,h20b⟩⟩⟩,h22⟩,⟨h23,h23_⟩⟩,⟨h27,h27_⟩⟩=>Nw (r:=JM lo*((two b:Int):Rat)) hF ⟨h27,h27_⟩ (by omega)) (fun g28=>QK (QD rfl)<|QY rfl (fun w F hF ⟨⟨⟨⟨⟨⟨⟨⟨⟨hGl,_⟩,_⟩,hs13⟩,_⟩,⟨⟨h20,h20_⟩,⟨h20a,h20b⟩⟩⟩,h22⟩,⟨h23,h23_⟩⟩,⟨h27,h27_⟩⟩,h28⟩=>NQ (a:=(JM lo*((two b:Int):Rat)).floor) hF h28 hb.1 hb.2 (by omega)) (fun x30=>QK (QI rfl YG Qg) ?_))))))))
  refine QK (QJ (vs:=[_,_,_,_]) rfl Qg (.there .here) (.skip (.skip (.skip (.skip (.here (.here (.here (.here .nil)))))))) rfl)<|QK (QJ (vs:=[_,_,_,_]) rfl Qg .here (.here (.here (.here (.here .nil)))) rfl)<|QY rfl (fun w F hF ⟨⟨⟨⟨⟨⟨⟨⟨⟨⟨hGl,_⟩,_⟩,hs13⟩,_⟩,⟨⟨h20,h20_⟩,⟨h20a,h20b⟩⟩⟩,h22⟩,⟨h23,h23_⟩⟩,⟨h27,h27_⟩⟩,h28⟩,⟨h30,h30_⟩⟩=>Km (r:=JM hi) (s:=((two b:Int):Rat)) hF ⟨h20a,h20b⟩ ⟨h23,h23_⟩ (by omega) (by omega)) (fun x34=>QY rfl (fun w F hF ⟨⟨⟨⟨⟨⟨⟨⟨⟨⟨⟨hGl,_⟩,_⟩,hs13⟩,_⟩,⟨⟨h20,h20_⟩,⟨h20a,h20b⟩⟩⟩,h22⟩,⟨h23,h23_⟩⟩,⟨h27,h27_⟩⟩,h28⟩,⟨h30,h30_⟩⟩,⟨h34,h34_⟩⟩=>xB (r:=JM hi*((two b:Int):Rat)) hF ⟨h34,h34_⟩ (by omega)) (fun g35=>QK (QD rfl)<|QY rfl (fun w F hF ⟨⟨⟨⟨⟨⟨⟨⟨⟨⟨⟨⟨hGl,_⟩,_⟩,hs13⟩,_⟩,⟨⟨h20,h20_⟩,⟨h20a,h20b⟩⟩⟩,h22⟩,⟨h23,h23_⟩⟩,⟨h27,h27_⟩⟩,h28⟩,⟨h30,h30_⟩⟩,⟨h34,h34_⟩⟩,h35⟩=>NQ (a:=-(-(JM hi*((two b:Int):Rat))).floor) hF h35 hb.1 hb.2 (by rw [YK];omega)) (fun x37=>QK (Q4 rfl SF KB (.cons (vs:=[_,_,_,_]) rfl rfl rfl (.here (.here (.here (.here .nil)))) (.cons (vs:=[_,_,_,_]) rfl rfl rfl (.skip (.skip (.skip (.skip (.here (.here (.here (.here .nil)))))))) .nil)))<|QY rfl (fun w F hF ⟨⟨⟨⟨⟨⟨⟨⟨⟨⟨⟨⟨⟨hGl,_⟩,_⟩,hs13⟩,_⟩,⟨⟨h20,h20_⟩,⟨h20a,h20b⟩⟩⟩,h22⟩,⟨h23,h23_⟩⟩,⟨h27,h27_⟩⟩,h28⟩,⟨h30,h30_⟩⟩,⟨h34,h34_⟩⟩,h35⟩,⟨h37,h37_⟩⟩=>E9 (x:=⟨x30,x37⟩) (r:=T6 (JM lo,JM hi) b) hF hGl ⟨⟨h30,h30_⟩,⟨h37,h37_⟩⟩ ⟨Nat.le_trans hg1 (by decide),Nat.le_trans hg2 (by decide)⟩) (fun _=>QK (QM rfl rfl)<|QK (QM rfl rfl)<|JU (vs:=[_,_]) rfl rfl rfl JW rfl (.there (.there .here)) (.cons_cons _ (.cons_cons _ (.cons_cons _ .slnil))) (fun _ h=>h.1.1.1.1.1.1.1) (.here (.here .nil)) ⟨rfl,rfl,trivial⟩<|QK (QE rfl)<|Q2<|QC<|QR ?_))))
  exact Jb () rfl (.JX (c:=[_,_]) rfl JW (.there (.there .here)) (.tmp rfl .nil)) (by unfold YA;rw [if_pos h0];rfl) (fun _ _=>trivial)
end
section
open Go.RowKit Ig
def Yz (s:Rat×Rat) (x:Rat):Rat×Rat:=(if DL x s.1<0 then x else s.1,if DL x s.2>0 then x else s.2)
def K7 (r:Rat) (l:List Rat):Rat×Rat:=l.foldl Yz (r,r)
def C8 (x:Fr):List Value:=[.int .i64 x.n.s,.slice x.n.q x.n.n x.n.cap,.int .i64 x.d.s,.slice x.d.q x.d.n x.d.cap]
theorem Sk {α:Type} {f:α→List Value} {k:Nat} (hf:∀ x,(f x).length=k):∀ (l:List α) (i j:Nat) (h:i<l.length),j<k→(l.flatMap f)[i*k+j]?=(f l[i])[j]?
 |[],_,_,h,_=>by simp at h
 |x::l,0,j,_,hj=>by
  rw [List.flatMap_cons,Nat.zero_mul,Nat.zero_add,List.getElem?_append,if_pos (by rw [hf];exact hj)];rfl
 |x::l,i+1,j,h,hj=>by
  rw [List.flatMap_cons,List.getElem?_append,if_neg (by rw [hf,Nat.add_mul];omega),hf]
  have:=Sk hf l i j (by simpa using h) hj
  rw [show(i+1)*k+j - k=i*k+j by rw [Nat.add_mul];omega,this];rfl
theorem Lk {α:Type} {f:α→List Value} {k:Nat} (hf:∀ x,(f x).length=k) (l:List α):(l.flatMap f).length=l.length*k:=by
 induction l with
 |nil=>simp
 |cons x l ih=>rw [List.flatMap_cons,List.length_append,hf,ih,List.length_cons,Nat.add_mul];omega
theorem OM {s:Rat×Rat} {x:Rat} {k:Nat} (h:JQ s.1≤k∧JQ s.2≤k) (hx:JQ x≤k):JQ (Yz s x).1≤k∧JQ (Yz s x).2≤k:=by
 unfold Yz
 refine⟨?_,?_⟩
 ·show JQ (if _ then _ else _)≤k
  split
  ·exact hx
  ·exact h.1
 ·show JQ (if _ then _ else _)≤k
  split
  ·exact hx
  ·exact h.2
theorem G3 {k:Nat}:∀ (l:List Rat) (s:Rat×Rat),(JQ s.1≤k∧JQ s.2≤k)→(∀ x∈l,JQ x≤k)→JQ (l.foldl Yz s).1≤k∧JQ (l.foldl Yz s).2≤k
 |[],_,h,_=>h
 |x::l,s,h,hx=>G3 l (Yz s x) (OM h (hx x (by simp))) (fun y hy=>hx y (by simp [hy]))
structure y8 (n:Nat) (l:List Rat) (r:Rat×Rat) where
 i:Nat
 x:Sp
 s:Rat×Rat
 le:i≤n
 h:s=(l.take i).foldl Yz r
theorem Pu {l:List Rat} {i:Nat} (hi:i<l.length) (r:Rat×Rat):(l.take (i+1)).foldl Yz r=Yz ((l.take i).foldl Yz r) l[i]:=by
 rw [List.take_succ_eq_append_getElem hi,List.foldl_append];rfl
theorem Kc {w:World} {F:Gs} {x:Fr} {r:Rat} {q:Option Addr} {n c:Nat} {ps:List (Fr×Rat)} (hF:Fits F w) (h:Jc F x r) (hR:JB F q n 4 (ps.flatMap (fun p=>C8 p.1))) (hP:∀ p∈ps,Jc F p.1 p.2) (hn:ps.length=n) (hb:n≤1000000) (hz:JQ r≤50000000∧∀ p∈ps,JQ p.2≤50000000) :
  VJ Tryz.prog 152 [x.v,.slice q n c] w F (K7 r (ps.map (·.2))):=by
 have hzl:∀ y∈ps.map (·.2),JQ y≤50000000:=fun y hy=>by obtain ⟨p,hp,rfl⟩:=List.mem_map.1 hy;exact hz.2 p hp
 have hml:(ps.map (·.2)).length=n:=by simpa using hn
 refine QT.intro (G:=fun F=>Jc F x r∧JB F q n 4 (ps.flatMap (fun p=>C8 p.1))∧(∀ p∈ps,Jc F p.1 p.2)) Tryz.func152 rfl (by rfl) rfl rfl hF (fun F' hF'=>⟨h.le hF',hR.le hF',fun p hp=>(hP p hp).le hF'⟩)<|QG<|QB<|Qz rfl (vs:=[_,_,_,_]) rfl (fun b2=>QZ KB (fun b4=>QF<|QC<|QG<|QB<|QA (QJ (vs:=[_,_,_,_]) rfl Qg (.there .here) (.here (.here (.here (.here .nil)))) rfl)<|QA (QJ (vs:=[_,_,_,_]) rfl Qg (.there .here) (.here (.here (.here (.here .nil)))) rfl)<|QA (Q4 rfl SF KB (.cons (vs:=[_,_,_,_]) rfl rfl rfl (.here (.here (.here (.here .nil)))) (.cons (vs:=[_,_,_,_]) rfl rfl rfl (.skip (.skip (.skip (.skip (.here (.here (.here (.here .nil)))))))) .nil)))<|QZ KB (fun b5=>QS (vs:=[_,_,_,_,_,_,_,_]) rfl rfl rfl XN rfl .here (.here (.here (.here (.here (.here (.here (.here (.here .nil)))))))) ⟨rfl,rfl,rfl,rfl,rfl,rfl,rfl,rfl,trivial⟩<|QF<|QC<|QG<|QG<|QB<|QA (QD rfl)<|QA (Qn rfl Hw)<|QA (QD rfl)<|QF<|QC<|Qa ?_)))
 refine XU (ι:=y8 n (ps.map (·.2)) (r,r)) (fun i=>[(4,.pointer (some ⟨b4,0,none⟩)),(5,.pointer (some ⟨b5,0,none⟩)),(11,.slice q n c),(12,.int .i64 n),(13,.int .i64 i.i)]) (fun i=>[(b5,.cells #[.int .i64 i.x.lo.n.s,.slice i.x.lo.n.q i.x.lo.n.n i.x.lo.n.cap,.int .i64 i.x.lo.d.s,.slice i.x.lo.d.q i.x.lo.d.n i.x.lo.d.cap,.int .i64 i.x.hi.n.s,.slice i.x.hi.n.q i.x.hi.n.n i.x.hi.n.cap,.int .i64 i.x.hi.d.s,.slice i.x.hi.d.q i.x.hi.d.n i.x.hi.d.cap] 138 (0,0)),(b4,.cells #[.int .i64 0,.slice none 0 0,.int .i64 0,.slice none 0 0,.int .i64 0,.slice none 0 0,.int .i64 0,.slice none 0 0] 138 (0,0))]) (fun i F=>ZT F i.x i.s∧JB F q n 4 (ps.flatMap (fun p=>C8 p.1))∧(∀ p∈ps,Jc F p.1 p.2)) (fun i=>n - i.i)
   ⟨0,⟨x,x⟩,(r,r),Nat.zero_le _,rfl⟩ ⟨rfl,rfl,rfl,rfl,rfl,trivial⟩ (.cons_cons _ (.cons_cons _ (.cons _ (List.Sublist.refl _)))) (fun F ⟨hX,hR,hP⟩=>⟨⟨hX,hX⟩,hR,hP⟩) (fun i=>?_)
 have hle:=i.le
 have hsi:JQ i.s.1≤50000000∧JQ i.s.2≤50000000:=by rw [i.h];exact G3 _ _ ⟨hz.1,hz.1⟩ (fun y hy=>hzl y (List.mem_of_mem_take hy))
 refine QG<|QB<|QA (QU rfl rfl rfl)<|QF<|QC<|QG ?_
 refine QQ rfl (fun hc=>?_) (fun hc=>?_)
 ·
  have hi:i.i<n:=by simp at hc;omega
  have hil:i.i<ps.length:=by omega
  have hzi:=hz.2 _ (List.getElem_mem hil)
  refine Xo _ (fun w F hF h=>h.2.1.ptr (by omega)) (fun hq=>?_)
  obtain ⟨qb,qo,rfl⟩:=hq
  refine QP<|QC<|QG<|Qa<|QG<|QB<|QA (Qx rfl rfl Hw Qg hi) ?_
  refine QA (Dj (vs:=C8 ps[i.i].1) rfl Qg (fun F h=>h.2.1) (by omega) rfl (fun j v hv=>by rw [Sk (f:=fun p:Fr×Rat=>C8 p.1) (k:=4) (fun _=>rfl) ps i.i j hil (by rcases Nat.lt_or_ge j 4 with g | g;exact g;rw [List.getElem?_eq_none (by simpa [C8] using g)] at hv;cases hv)];exact hv)) ?_
  refine QZ X7 (fun b7=>QS (vs:=[_,_,_,_]) rfl rfl rfl Qg rfl .here (.here (.here (.here (.here .nil)))) ⟨rfl,rfl,rfl,rfl,trivial⟩<|QF<|QC ?_)
  refine Ku (ι:=Fr) (fun _=>[(4,.pointer (some ⟨b4,0,none⟩)),(5,.pointer (some ⟨b5,0,none⟩)),(7,.pointer (some ⟨b7,0,none⟩)),(11,.slice (some ⟨qb,qo,none⟩) n c),(12,.int .i64 n),(13,.int .i64 i.i)]) (fun y=>(b7,.cells #[.int .i64 ps[i.i].1.n.s,.slice ps[i.i].1.n.q ps[i.i].1.n.n ps[i.i].1.n.cap,.int .i64 ps[i.i].1.d.s,.slice ps[i.i].1.d.q ps[i.i].1.d.n ps[i.i].1.d.cap] 130 (0,0))::[(b5,.cells #[.int .i64 y.n.s,.slice y.n.q y.n.n y.n.cap,.int .i64 y.d.s,.slice y.d.q y.d.n y.d.cap,.int .i64 i.x.hi.n.s,.slice i.x.hi.n.q i.x.hi.n.n i.x.hi.n.cap,.int .i64 i.x.hi.d.s,.slice i.x.hi.d.q i.x.hi.d.n i.x.hi.d.cap] 138 (0,0)),(b4,.cells #[.int .i64 0,.slice none 0 0,.int .i64 0,.slice none 0 0,.int .i64 0,.slice none 0 0,.int .i64 0,.slice none 0 0] 138 (0,0))])
    (fun y F=>ZT F ⟨y,i.x.hi⟩ (if DL ps[i.i].2 i.s.1<0 then ps[i.i].2 else i.s.1,i.s.2)∧JB F (some ⟨qb,qo,none⟩) n 4 (ps.flatMap (fun p=>C8 p.1))∧(∀ p∈ps,Jc F p.1 p.2)) ?_ ?_
  ·
   refine QG<|QB<|QA (QJ (vs:=[_,_,_,_]) rfl Qg .here (.here (.here (.here (.here .nil)))) rfl)<|QA (QI rfl Zw Qg)<|QA (QJ (vs:=[_,_,_,_]) rfl Qg (.there .here) (.here (.here (.here (.here .nil)))) rfl)<|QH rfl (fun w F hF ⟨hS,hR,hP⟩=>FO (x:=ps[i.i].1) (y:=i.x.lo) (r:=ps[i.i].2) (s:=i.s.1) hF (hP _ (List.getElem_mem hil)) hS.1 (by omega) (by omega)) (fun _=>QA (QU rfl rfl rfl)<|QF<|QC ?_)
   refine QQ rfl (fun hc21=>?_) (fun hc21=>?_)
   ·
    refine QB<|QA (QJ (vs:=[_,_,_,_]) rfl Qg .here (.here (.here (.here (.here .nil)))) rfl)<|QA (QI rfl Zw Qg)<|QS (vs:=[_,_,_,_]) rfl rfl rfl Qg rfl (.there .here) (.here (.here (.here (.here .nil)))) ⟨rfl,rfl,rfl,rfl,trivial⟩<|QF ?_
    exact XC ps[i.i].1 ⟨rfl,rfl,rfl,rfl,rfl,rfl,trivial⟩ (List.Sublist.refl _) (fun F ⟨⟨hS,hR,hP⟩,_⟩=>⟨⟨by show Jc F _ (if _ then _ else _);rw [if_pos (of_decide_eq_true hc21)];exact hP _ (List.getElem_mem hil),hS.2⟩,hR,hP⟩)
   ·
    refine QP ?_
    exact XC i.x.lo ⟨rfl,rfl,rfl,rfl,rfl,rfl,trivial⟩ (List.Sublist.refl _) (fun F ⟨⟨hS,hR,hP⟩,_⟩=>⟨⟨by show Jc F _ (if _ then _ else _);rw [if_neg (of_decide_eq_false hc21)];exact hS.1,hS.2⟩,hR,hP⟩)
  ·intro xg5
   refine QG<|QB<|QA (QJ (vs:=[_,_,_,_]) rfl Qg .here (.here (.here (.here (.here .nil)))) rfl)<|QA (QI rfl YG Qg)<|QA (QJ (vs:=[_,_,_,_]) rfl Qg (.there .here) (.skip (.skip (.skip (.skip (.here (.here (.here (.here .nil)))))))) rfl)<|QH rfl (fun w F hF ⟨hS,hR,hP⟩=>FO (x:=ps[i.i].1) (y:=i.x.hi) (r:=ps[i.i].2) (s:=i.s.2) hF (hP _ (List.getElem_mem hil)) hS.2 (by omega) (by omega)) (fun _=>QA (QU rfl rfl rfl)<|QF<|QC ?_)
   refine QQ rfl (fun hc28=>?_) (fun hc28=>?_)
   ·
    refine QB<|QA (QJ (vs:=[_,_,_,_]) rfl Qg .here (.here (.here (.here (.here .nil)))) rfl)<|QA (QI rfl YG Qg)<|QS (vs:=[_,_,_,_]) rfl rfl rfl Qg rfl (.there .here) (.skip (.skip (.skip (.skip (.here (.here (.here (.here .nil)))))))) ⟨rfl,rfl,rfl,rfl,trivial⟩<|QF<|Ql<|QC<|QB<|QA (Qu rfl rfl (by omega))<|QA (QD rfl)<|QF ?_
    exact Qo (⟨i.i+1,⟨xg5,ps[i.i].1⟩,Yz i.s ps[i.i].2,by omega,by rw [Pu (by omega),← i.h,List.getElem_map]⟩:y8 n (ps.map (·.2)) (r,r)) (by show n - (i.i+1)<n - i.i;omega) ⟨rfl,rfl,rfl,rfl,rfl,trivial⟩ (.cons _ (List.Sublist.refl _)) (fun F ⟨⟨hS,hR,hP⟩,_⟩=>⟨⟨hS.1,by show Jc F _ (if _ then _ else _);rw [if_pos (of_decide_eq_true hc28)];exact hP _ (List.getElem_mem hil)⟩,hR,hP⟩)
   ·
    refine QP<|Ql<|QC<|QB<|QA (Qu rfl rfl (by omega))<|QA (QD rfl)<|QF ?_
    exact Qo (⟨i.i+1,⟨xg5,i.x.hi⟩,Yz i.s ps[i.i].2,by omega,by rw [Pu (by omega),← i.h,List.getElem_map]⟩:y8 n (ps.map (·.2)) (r,r)) (by show n - (i.i+1)<n - i.i;omega) ⟨rfl,rfl,rfl,rfl,rfl,trivial⟩ (.cons _ (List.Sublist.refl _)) (fun F ⟨⟨hS,hR,hP⟩,_⟩=>⟨⟨hS.1,by show Jc F _ (if _ then _ else _);rw [if_neg (of_decide_eq_false hc28)];exact hS.2⟩,hR,hP⟩)
 ·
  refine Q5 ?_
  repeat (first | refine Qc ?_ | refine QX (by rfl) ?_)
  refine Qd<|QC<|QG<|QB<|QA (QJ (vs:=[_,_,_,_,_,_,_,_]) rfl XN .here (.here (.here (.here (.here (.here (.here (.here (.here .nil)))))))) rfl)<|QS (vs:=[_,_,_,_,_,_,_,_]) rfl rfl rfl XN rfl (.there .here) (.here (.here (.here (.here (.here (.here (.here (.here .nil)))))))) ⟨rfl,rfl,rfl,rfl,rfl,rfl,rfl,rfl,trivial⟩<|QF<|QC<|QR ?_
  exact QN (i.x) rfl (.JX (c:=[_,_,_,_,_,_,_,_]) rfl XN (.there .here) .nil) rfl (fun F h=>by have e:=i.h;rw [List.take_of_length_le (by simp at hc;omega)] at e;show ZT F i.x (List.foldl Yz (r,r) _);rw [← e];exact h.1)
theorem qy {w:World} {F:Gs} {x y:Sp} {a b:Rat×Rat} (hF:Fits F w) (h:ZT F x a) (h':ZT F y b) (ha:JQ a.1≤100000000∧JQ a.2≤100000000) (hb:JQ b.1≤100000000∧JQ b.2≤100000000):VJ Tryz.prog 146 [x.v,y.v] w F (a.1+b.1,a.2+b.2):=by
 refine QT.intro (G:=fun F=>ZT F x a∧ZT F y b) Tryz.func146 rfl (by rfl) rfl rfl hF (fun F' hF'=>⟨h.le hF',h'.le hF'⟩)<|QG<|QB<|Qz rfl (vs:=[_,_,_,_,_,_,_,_]) rfl (fun b2=>Qz rfl (vs:=[_,_,_,_,_,_,_,_]) rfl (fun b3=>QZ KB (fun b4=>QF<|QC<|QG<|JG (.cons _ (.cons_cons _ (.cons_cons _ .slnil))) mixed (by kernel_rfl)<|QK (QI rfl Zw Qg)<|QK (QJ (vs:=[_,_,_,_]) rfl Qg (.there .here) (.here (.here (.here (.here .nil)))) rfl)<|QK (QI rfl Zw Qg)<|QK (QJ (vs:=[_,_,_,_]) rfl Qg .here (.here (.here (.here (.here .nil)))) rfl)<|QY rfl (fun w F hF ⟨hA,hB⟩=>Nx (x:=x.lo) (y:=y.lo) hF hA.1 hB.1 ha.1 hb.1) (fun x9=>QK (QI rfl YG Qg)<|QK (QJ (vs:=[_,_,_,_]) rfl Qg (.there .here) (.skip (.skip (.skip (.skip (.here (.here (.here (.here .nil)))))))) rfl)<|QK (QI rfl YG Qg)<|QK (QJ (vs:=[_,_,_,_]) rfl Qg .here (.skip (.skip (.skip (.skip (.here (.here (.here (.here .nil)))))))) rfl)<|QY rfl (fun w F hF ⟨⟨hA,hB⟩,⟨h9,h9_⟩⟩=>Nx (x:=x.hi) (y:=y.hi) hF hA.2 hB.2 ha.2 hb.2) (fun x14=>QK (Q4 rfl SF KB (.cons (vs:=[_,_,_,_]) rfl rfl rfl (.here (.here (.here (.here .nil)))) (.cons (vs:=[_,_,_,_]) rfl rfl rfl (.skip (.skip (.skip (.skip (.here (.here (.here (.here .nil)))))))) .nil)))<|JU (vs:=[_,_,_,_,_,_,_,_]) rfl rfl rfl XN rfl .here (.cons_cons _ (.cons_cons _ .slnil)) (fun _ h=>h.1.1) (.here (.here (.here (.here (.here (.here (.here (.here .nil)))))))) ⟨rfl,rfl,rfl,rfl,rfl,rfl,rfl,rfl,trivial⟩<|Q2<|QC<|QR ?_)))))
 exact QN (⟨x9,x14⟩:Sp) rfl (.JX (c:=[_,_,_,_,_,_,_,_]) rfl XN .here .nil) rfl (fun F ⟨⟨⟨hA,hB⟩,⟨h9,h9_⟩⟩,⟨h14,h14_⟩⟩=>⟨⟨h9,h9_⟩,⟨h14,h14_⟩⟩)
def V7 (a b:Rat×Rat):Rat×Rat:=K7 (a.1*b.1) [a.1*b.2,a.2*b.1,a.2*b.2]
theorem TU {w:World} {F:Gs} {x y:Sp} {a b:Rat×Rat} (hF:Fits F w) (h:ZT F x a) (h':ZT F y b) (ha:JQ a.1≤20000000∧JQ a.2≤20000000) (hb:JQ b.1≤20000000∧JQ b.2≤20000000):VJ Tryz.prog 148 [x.v,y.v] w F (V7 a b):=by
 have z1:=Jz a.1 b.1
 have z2:=Jz a.1 b.2
 have z3:=Jz a.2 b.1
 have z4:=Jz a.2 b.2
 refine QT.intro (G:=fun F=>ZT F x a∧ZT F y b) Tryz.func148 rfl (by rfl) rfl rfl hF (fun F' hF'=>⟨h.le hF',h'.le hF'⟩)<|QG<|QB<|Qz rfl (vs:=[_,_,_,_,_,_,_,_]) rfl (fun b2=>Qz rfl (vs:=[_,_,_,_,_,_,_,_]) rfl (fun b3=>QZ KB (fun b4=>QF<|QC<|QG<|JG (.cons _ (.cons_cons _ (.cons_cons _ .slnil))) mixed (by kernel_rfl)<|QK (QI rfl Zw Qg)<|QK (QJ (vs:=[_,_,_,_]) rfl Qg (.there .here) (.here (.here (.here (.here .nil)))) rfl)<|QK (QI rfl Zw Qg)<|QK (QJ (vs:=[_,_,_,_]) rfl Qg .here (.here (.here (.here (.here .nil)))) rfl)<|QY rfl (fun w F hF ⟨hA,hB⟩=>Km (x:=x.lo) (y:=y.lo) hF hA.1 hB.1 (by omega) (by omega)) (fun x9=>QK (QI rfl Zw Qg)<|QK (QJ (vs:=[_,_,_,_]) rfl Qg (.there .here) (.here (.here (.here (.here .nil)))) rfl)<|QK (QI rfl YG Qg)<|QK (QJ (vs:=[_,_,_,_]) rfl Qg .here (.skip (.skip (.skip (.skip (.here (.here (.here (.here .nil)))))))) rfl)<|QY rfl (fun w F hF ⟨⟨hA,hB⟩,⟨h9,h9_⟩⟩=>Km (x:=x.lo) (y:=y.hi) hF hA.1 hB.2 (by omega) (by omega)) (fun x14=>QK (QI rfl YG Qg)<|QK (QJ (vs:=[_,_,_,_]) rfl Qg (.there .here) (.skip (.skip (.skip (.skip (.here (.here (.here (.here .nil)))))))) rfl)<|QK (QI rfl Zw Qg)<|QK (QJ (vs:=[_,_,_,_]) rfl Qg .here (.here (.here (.here (.here .nil)))) rfl)<|QY rfl (fun w F hF ⟨⟨⟨hA,hB⟩,⟨h9,h9_⟩⟩,⟨h14,h14_⟩⟩=>Km (x:=x.hi) (y:=y.lo) hF hA.2 hB.1 (by omega) (by omega)) (fun x19=>?_))))))
 refine QK (QI rfl YG Qg)<|QK (QJ (vs:=[_,_,_,_]) rfl Qg (.there .here) (.skip (.skip (.skip (.skip (.here (.here (.here (.here .nil)))))))) rfl)<|QK (QI rfl YG Qg)<|QK (QJ (vs:=[_,_,_,_]) rfl Qg .here (.skip (.skip (.skip (.skip (.here (.here (.here (.here .nil)))))))) rfl)<|QY rfl (fun w F hF ⟨⟨⟨⟨hA,hB⟩,⟨h9,h9_⟩⟩,⟨h14,h14_⟩⟩,⟨B1,h19_⟩⟩=>Km (x:=x.hi) (y:=y.hi) hF hA.2 hB.2 (by omega) (by omega)) (fun x24=>?_)
 refine Jv rfl (Q8 Hw) Qg X7 rfl rfl (fun b25=>?_) (fun w h=>h.imp (.cons _ (List.Sublist.refl _)) (fun F h=>h.1.1.1.1))
 refine QY rfl (fun w F hF ⟨⟨⟨⟨⟨⟨hA,hB⟩,⟨h9,h9_⟩⟩,⟨h14,h14_⟩⟩,⟨B1,h19_⟩⟩,⟨h24,h24_⟩⟩,hs25⟩=>Kc (ps:=[(x14,a.1*b.2),(x19,a.2*b.1),(x24,a.2*b.2)]) hF ⟨h9,h9_⟩ (JB.of (cs:=List.flatMap (fun p=>C8 p.1) [(x14,a.1*b.2),(x19,a.2*b.1),(x24,a.2*b.2)]) hs25 rfl) (fun p hp=>by
  simp only [List.mem_cons,List.not_mem_nil,or_false] at hp
  rcases hp with rfl | rfl | rfl
  ·exact⟨h14,h14_⟩
  ·exact⟨B1,h19_⟩
  ·exact⟨h24,h24_⟩) rfl (by decide) ⟨by omega,fun p hp=>by
  simp only [List.mem_cons,List.not_mem_nil,or_false] at hp
  rcases hp with rfl | rfl | rfl<;>dsimp only<;>omega⟩) (fun x26=>?_)
 refine JU (vs:=[_,_,_,_,_,_,_,_]) rfl rfl rfl XN rfl .here (.cons_cons _ (.cons_cons _ .slnil)) (fun _ h=>h.1.1.1.1.1.1) (.here (.here (.here (.here (.here (.here (.here (.here .nil)))))))) ⟨rfl,rfl,rfl,rfl,rfl,rfl,rfl,rfl,trivial⟩<|Q2<|QC<|QR ?_
 exact QN (x26) rfl (.JX (c:=[_,_,_,_,_,_,_,_]) rfl XN .here .nil) rfl (fun F h=>h.2)
end
section
open Go.RowKit Ig
def Bp (op:Rat×Rat→Rat×Rat→Rat×Rat) (a b:List UInt8×List UInt8):(List UInt8×List UInt8)×Int :=
 if Qm [Jl a.1 a.2,Jl b.1 b.2]=0 then Vx (op (JM a.1,JM a.2) (JM b.1,JM b.2)) else(([],[]),Qm [Jl a.1 a.2,Jl b.1 b.2])
def short (a:List UInt8×List UInt8):Prop:=a.1.length≤1000000∧a.2.length≤1000000
theorem yF {w:World} {F:Gs} {a b:List UInt8×List UInt8} {f:Nat} {op:Rat×Rat→Rat×Rat→Rat×Rat} (hF:Fits F w) (hG:JF F) (ha:short a) (hb:short b)
  (hop:∀ w F x y r s,Fits F w→ZT F x r→ZT F y s→(JQ r.1≤2400∧JQ r.2≤2400)→(JQ s.1≤2400∧JQ s.2≤2400)→VJ Tryz.prog f [x.v,y.v] w F (op r s)∧(JQ (op r s).1≤100000000∧JQ (op r s).2≤100000000)) :
  QV Tryz.prog 145 [.agg #[tx a.1,tx a.2],.agg #[tx b.1,tx b.2],.func (.func f) #[] #[]] w F (.tuple #[.agg #[tx (Bp op a b).1.1,tx (Bp op a b).1.2],.int .i64 (Bp op a b).2]):=by
 refine QT.intro (G:=fun F=>JF F) Tryz.func145 rfl (by rfl) rfl rfl hF (fun F' hF'=>hG.le hF')<|QG<|QB<|Qz rfl (vs:=[_,_]) rfl (fun b3=>Qz rfl (vs:=[_,_]) rfl (fun b4=>QZ Zg (fun b6=>QA (QE rfl)<|QF<|QC<|QG<|QG<|JG (List.Sublist.refl _) mixed (by kernel_rfl)<|QK (QJ (vs:=[_,_]) rfl JW (.there (.there .here)) (.here (.here .nil)) rfl)<|QY rfl (fun w F hF hGl=>Yr (lo:=a.1) (hi:=a.2) hF hGl ha) (fun _=>QK (QJ (vs:=[_,_]) rfl JW (.there .here) (.here (.here .nil)) rfl)<|QY rfl (fun w F hF ⟨hGl,_⟩=>Yr (lo:=b.1) (hi:=b.2) hF hGl hb) (fun _=>?_)))))
 refine Jv rfl (Q8 Zq) KC BI rfl rfl (fun b13=>?_) (fun w h=>h.By fun F h=>h.1.1)
 refine QY rfl (fun w F hF ⟨⟨⟨hGl,_⟩,_⟩,hs13⟩=>YE hF (JB.of (cs:=List.map Q3 [Jl a.1 a.2,Jl b.1 b.2]) hs13 rfl) (by decide)) (fun _=>QK (QE rfl)<|Q2<|QC<|QG<|QB<|QA (QD rfl)<|QA (QU rfl rfl rfl)<|QF<|QC ?_)
 refine QQ rfl (fun hc=>?_) (fun hc=>?_)
 ·
  refine QG<|QB<|QA (Q4 rfl YI Zg .nil)<|QA (QD rfl)<|QS (vs:=[_,_]) rfl rfl rfl JW rfl .here (.here (.here .nil)) ⟨rfl,rfl,trivial⟩<|QA (QE rfl)<|QF<|QC<|QR ?_
  exact Jb () rfl (.JX (c:=[_,_]) rfl JW .here (.tmp rfl .nil)) (by unfold Bp;rw [if_neg (by simpa using hc)];rfl) (fun _ _=>trivial)
 ·
  have h0:Qm [Jl a.1 a.2,Jl b.1 b.2]=0:=by simpa using hc
  have h1:=ZG h0
  have hoka:=Ys h1.1
  have hokb:=Ys h1.2
  refine QP<|QC<|QG<|JG (.cons _ (.cons_cons _ (.cons_cons _ .slnil))) mixed (by kernel_rfl)<|QK (QD rfl)<|QK (QJ (vs:=[_,_]) rfl JW (.there .here) (.here (.here .nil)) rfl)<|QY rfl (fun w F hF ⟨⟨⟨⟨hGl,_⟩,_⟩,hs13⟩,_⟩=>NO hF hGl hoka.1 hoka.2.1 ha) (fun x21=>QK (QJ (vs:=[_,_]) rfl JW .here (.here (.here .nil)) rfl)<|QY rfl (fun w F hF ⟨⟨⟨⟨⟨hGl,_⟩,_⟩,hs13⟩,_⟩,⟨⟨h21,h21_⟩,⟨h21a,h21b⟩⟩⟩=>NO hF hGl hokb.1 hokb.2.1 hb) (fun x23=>AJ (c1:=[]) (c2:=[]) rfl rfl (fun w F hF h=>(hop w F x21 x23 _ _ hF h.1.2 h.2 ⟨J4 hoka.1,J4 hoka.2.1⟩ ⟨J4 hokb.1,J4 hokb.2.1⟩).1) (fun x24=>QY rfl (fun w F hF h=>E9 (x:=x24) (r:=op (JM a.1,JM a.2) (JM b.1,JM b.2)) hF h.1.1.1.1.1.1.1 h.2 (hop w F x21 x23 _ _ hF h.1.1.2 h.1.2 ⟨J4 hoka.1,J4 hoka.2.1⟩ ⟨J4 hokb.1,J4 hokb.2.1⟩).2) (fun _=>QK (QM rfl rfl)<|QK (QM rfl rfl)<|JU (vs:=[_,_]) rfl rfl rfl JW rfl .here (.cons_cons _ (.cons_cons _ .slnil)) (fun _ h=>h.1.1.1.1) (.here (.here .nil)) ⟨rfl,rfl,trivial⟩<|QK (QE rfl)<|Q2<|QC<|QR ?_))))
  exact Jb () rfl (.JX (c:=[_,_]) rfl JW .here (.tmp rfl .nil)) (by unfold Bp;rw [if_pos h0];rfl) (fun _ _=>trivial)
theorem A3 {w:World} {F:Gs} {a b:List UInt8×List UInt8} (hF:Fits F w) (hG:JF F) (ha:short a) (hb:short b) :
  QV Tryz.prog 47 [.agg #[tx a.1,tx a.2],.agg #[tx b.1,tx b.2]] w F (.tuple #[.agg #[tx (Bp V7 a b).1.1,tx (Bp V7 a b).1.2],.int .i64 (Bp V7 a b).2]):=by
 refine QT.intro (G:=fun F=>JF F) Tryz.func47 rfl (by rfl) rfl rfl hF (fun F' hF'=>hG.le hF')<|QG<|QB<|Qz rfl (vs:=[_,_]) rfl (fun b2=>Qz rfl (vs:=[_,_]) rfl (fun b3=>QZ Zg (fun b4=>QA (QE rfl)<|QF<|QC<|QG<|QB<|QA (QJ (vs:=[_,_]) rfl JW (.there (.there .here)) (.here (.here .nil)) rfl)<|QA (QJ (vs:=[_,_]) rfl JW (.there .here) (.here (.here .nil)) rfl)<|QH rfl (fun w F hF hGl=>yF (a:=a) (b:=b) (op:=V7) hF hGl ha hb (fun w F x y r s hF hx hy hr hs=>⟨TU hF hx hy ⟨by omega,by omega⟩ ⟨by omega,by omega⟩,(by have z1:=Jz r.1 s.1;have z2:=Jz r.1 s.2;have z3:=Jz r.2 s.1;have z4:=Jz r.2 s.2;have:=G3 (k:=4800) [r.1*s.2,r.2*s.1,r.2*s.2] (r.1*s.1,r.1*s.1) ⟨by dsimp only;omega,by dsimp only;omega⟩ (fun x hx=>(by simp only [List.mem_cons,List.not_mem_nil,or_false] at hx;rcases hx with rfl | rfl | rfl<;>omega));exact⟨Nat.le_trans this.1 (by decide),Nat.le_trans this.2 (by decide)⟩)⟩)) (fun c8=>QA (QM rfl rfl)<|QA (QM rfl rfl)<|QS (vs:=[_,_]) rfl rfl rfl JW rfl .here (.here (.here .nil)) ⟨rfl,rfl,trivial⟩<|QA (QE rfl)<|QF<|QC<|QR ?_))))
 exact Jb () rfl (.JX (c:=[_,_]) rfl JW .here (.tmp rfl .nil)) rfl (fun _ _=>trivial)
end
section
open Go.RowKit Ig
end
section
open Go.RowKit Ig
def HK (text:List UInt8):List UInt8×List UInt8×Bool:=if(Xt 46 text).2.2=true then((Xt 46 text).1,(Xt 46 text).2.1,false) else Xt 47 text
def Aw (n d:List UInt8) (point slash:Bool):Bool:=!W6 n||((point||slash)&&!W6 d)
def Bo (n d:List UInt8) (point slash:Bool):Int:=if slash=true then Q9 n else if point=true then Q9 (n++d) else Q9 n
def PV (d:List UInt8) (point slash:Bool):Int:=if slash=true then Q9 d else if point=true then 10^d.length else 1
def SH (neg:Bool) (n d:List UInt8) (point slash:Bool):List UInt8×Int :=
 if Aw n d point slash=true then([],14) else if PV d point slash=0 then([],6) else GQ (Rat.divInt (if neg=true then -Bo n d point slash else Bo n d point slash) (PV d point slash))
def SG (s:List UInt8):List UInt8×Int :=
 if 4096<s.length then([],16) else SH (Lib.hasPrefix s [45]) (HK (Lib.trimPrefix s [45])).1 (HK (Lib.trimPrefix s [45])).2.1 (Xt 46 (Lib.trimPrefix s [45])).2.2 (HK (Lib.trimPrefix s [45])).2.2
theorem Ra {s:List UInt8} (h:W6 s=true):XF s=true:=by
 simp only [W6,Bool.and_eq_true] at h;exact h.1
theorem CO (t:List UInt8):(HK t).1.length≤t.length∧(HK t).2.1.length≤t.length:=by
 unfold HK
 split
 ·exact DH 46 t
 ·exact DH 47 t
theorem CS {n d:List UInt8} {pt sl:Bool} (hn:XF n=true) (hd:(pt||sl)=true→XF d=true) (hl:n.length≤1000000∧d.length≤1000000):sz (Bo n d pt sl)≤8000000∧sz (PV d pt sl)≤8000000:=by
 have h1:=VO hn
 unfold Bo PV
 refine⟨?_,?_⟩
 ·split
  ·omega
  ·split
   ·rename_i h
    have h2:=VO (l:=n++d) (by rw [ZD,hn,hd (by rw [h];rfl)];rfl)
    rw [List.length_append] at h2;omega
   ·omega
 ·split
  ·rename_i h
   have h2:=VO (hd (by rw [h];simp))
   omega
  ·split
   ·have:=Mz d.length;omega
   ·have:sz 1=1:=by decide
    omega
theorem CT {w:World} {F:Gs} {s:List UInt8} (hF:Fits F w) (hG:JF F) (hl:s.length≤1000000):QV Tryz.prog 71 [tx s] w F (.tuple #[tx (SG s).1,.int .i64 (SG s).2]):=by
 have htl:=BN s [45]
 have hpl:=CO (Lib.trimPrefix s [45])
 have hcl:=DH 46 (Lib.trimPrefix s [45])
 unfold SG
 refine QT.intro (G:=fun F=>JF F) Tryz.func71 rfl (by rfl) rfl rfl hF (fun F' hF'=>hG.le hF')<|QG<|QB<|QA (QE rfl)<|QA (QE rfl)<|QF<|QC<|QG<|QG<|QB<|QA (QD rfl)<|QA (Jq rfl J8)<|QA (QU rfl rfl rfl)<|QF<|QC ?_
 refine QQ rfl (fun hc14=>?_) (fun hc14=>?_)
 ·
  refine QG<|QB<|QA (QE rfl)<|QA (QE rfl)<|QF<|QC<|QR ?_
  exact Jb () rfl (.tmp rfl (.tmp rfl .nil)) (by rw [if_pos (by simp at hc14;omega)]) (fun _ _=>trivial)
 ·
  have hlen:¬ 4096<s.length:=by simp at hc14;omega
  rw [if_neg hlen]
  refine QP<|QC<|QG<|QB<|QA (QD rfl)<|QH rfl (fun w F hF hGl=>Ea hF ) (fun _=>QA (QD rfl)<|QA (QM rfl rfl)<|QA (QM rfl rfl)<|QA (QE rfl)<|QA (QE rfl)<|QF<|QC<|QG<|QB<|QA (QD rfl)<|QH rfl (fun w F hF ⟨hGl,_⟩=>IS hF hGl (by omega)) (fun _=>?_))
  rw [Sw]
  refine QA (QD rfl)<|QA (QM rfl rfl)<|QA (QM rfl rfl)<|QA (QM rfl rfl)<|QA (QE rfl)<|QA (QE rfl)<|QA (QE rfl)<|QF<|QC<|QG<|QB<|QA (QE rfl)<|QF<|QC ?_
  refine Ku (ι:=Unit) (fun _=>[(5,.bool (Lib.hasPrefix s [45])),(6,tx (HK (Lib.trimPrefix s [45])).1),(7,tx (HK (Lib.trimPrefix s [45])).2.1),(8,.bool (Xt 46 (Lib.trimPrefix s [45])).2.2),(9,.bool (HK (Lib.trimPrefix s [45])).2.2)]) (fun _=>[]) (fun _ F=>JF F) ?_ ?_
  ·
   refine QG<|QB<|QA (QD rfl)<|QA (YV rfl)<|QF<|QC ?_
   refine QQ rfl (fun hc27=>?_) (fun hc27=>?_)
   ·
    refine QB<|QA (QD rfl)<|QH rfl (fun w F hF ⟨⟨hGl,_⟩,_⟩=>IS hF hGl (by omega)) (fun _=>?_)
    rw [Sw]
    refine QA (QD rfl)<|QA (QM rfl rfl)<|QA (QM rfl rfl)<|QA (QM rfl rfl)<|QA (QE rfl)<|QA (QE rfl)<|QA (QE rfl)<|QF ?_
    exact XC () ⟨rfl,(by show some (tx _)=some (tx _);rw [HK,if_neg (by simpa using hc27)]),(by show some (tx _)=some (tx _);rw [HK,if_neg (by simpa using hc27)]),rfl,(by show some (Value.bool _)=some (Value.bool _);rw [HK,if_neg (by simpa using hc27)]),trivial⟩ (List.Sublist.refl _) (fun F h=>h.1.1.1)
   ·
    refine QP ?_
    exact XC () ⟨rfl,(by show some (tx _)=some (tx _);rw [HK,if_pos (by simpa using hc27)]),(by show some (tx _)=some (tx _);rw [HK,if_pos (by simpa using hc27)]),rfl,(by show some (Value.bool _)=some (Value.bool _);rw [HK,if_pos (by simpa using hc27)]),trivial⟩ (List.Sublist.refl _) (fun F h=>h.1.1)
  ·intro xg6
   generalize HK (Lib.trimPrefix s [45])=pc at hpl ⊢
   obtain ⟨n,d,sl⟩:=pc
   generalize (Xt 46 (Lib.trimPrefix s [45])).2.2=pt
   generalize Lib.hasPrefix s [45]=neg
   dsimp only at hpl ⊢
   refine QG ?_
   refine Vi 47 (.bool (Aw n d pt sl)) ?_ ?_
   ·
    refine QB<|QA (QD rfl)<|QH rfl (fun w F hF hGl=>DE hF (by omega)) (fun _=>QA (YV rfl)<|QA (QD rfl) ?_)
    refine Qk (t:=37) rfl (fun hb37=>?_) (fun hb37=>?_)
    ·
     refine QO rfl rfl rfl<|QO rfl rfl rfl<|JO rfl rfl<|QO rfl rfl rfl<|QO rfl rfl rfl<|JO rfl rfl<|JO rfl rfl<|JO rfl rfl<|QO rfl rfl rfl<|QA (Qj rfl rfl rfl)<|QF ?_
     exact Jr (.cons rfl (.cons rfl (.cons rfl (.cons rfl (.cons rfl (.cons rfl (.cons rfl (.cons rfl (.cons rfl (.cons rfl (.cons rfl (.cons rfl (.cons rfl (.cons rfl (.cons rfl .refl))))))))))))))) (congrArg (fun b=>some (Value.bool b)) (by rw [Bool.eq_iff_iff];simp_all [Aw])) (List.Sublist.refl _) (fun _ h=>h.1)
    ·
     refine QL rfl rfl<|QA (QD rfl)<|QL rfl rfl<|QA (QD rfl) ?_
     refine Qk (t:=39) rfl (fun hb39=>?_) (fun hb39=>?_)
     ·
      refine QO rfl rfl rfl<|QL rfl rfl<|QA (Qj rfl rfl rfl)<|QL rfl rfl<|QA (QD rfl)<|QL rfl rfl<|QA (QD rfl)<|QL rfl rfl<|QH rfl (fun w F hF ⟨hGl,_⟩=>DE hF (by omega)) (fun _=>QL rfl rfl<|QA (YV rfl)<|QL rfl rfl<|QA (Qj rfl rfl rfl)<|QA (Qh rfl rfl rfl)<|QF ?_)
      exact Jr (.cons rfl (.cons rfl (.cons rfl (.cons rfl (.cons rfl (.cons rfl (.cons rfl (.cons rfl (.cons rfl (.cons rfl (.cons rfl (.cons rfl (.cons rfl (.cons rfl (.cons rfl (.cons rfl .refl)))))))))))))))) (congrArg (fun b=>some (Value.bool b)) (by rw [Bool.eq_iff_iff];simp_all [Aw])) (List.Sublist.refl _) (fun _ h=>h.1.1)
     ·
      refine QL rfl rfl<|QA (QD rfl)<|QL rfl rfl<|QA (Qh rfl rfl rfl)<|QL rfl rfl<|QA (QD rfl) ?_
      refine Qk (t:=42) rfl (fun hb42=>?_) (fun hb42=>?_)
      ·
       refine QL rfl rfl<|QA (QD rfl)<|QL rfl rfl<|QH rfl (fun w F hF ⟨hGl,_⟩=>DE hF (by omega)) (fun _=>QL rfl rfl<|QA (YV rfl)<|QL rfl rfl<|QA (Qj rfl rfl rfl)<|QA (Qh rfl rfl rfl)<|QF ?_)
       exact Jr (.cons rfl (.cons rfl (.cons rfl (.cons rfl (.cons rfl (.cons rfl (.cons rfl (.cons rfl (.cons rfl (.cons rfl (.cons rfl (.cons rfl (.cons rfl (.cons rfl (.cons rfl (.cons rfl (.cons rfl .refl))))))))))))))))) (congrArg (fun b=>some (Value.bool b)) (by rw [Bool.eq_iff_iff];simp_all [Aw])) (List.Sublist.refl _) (fun _ h=>h.1.1)
      ·
       refine QO rfl rfl rfl<|QO rfl rfl rfl<|QO rfl rfl rfl<|QL rfl rfl<|QA (Qh rfl rfl rfl)<|QA (Qh rfl rfl rfl)<|QF ?_
       exact Jr (.cons rfl (.cons rfl (.cons rfl (.cons rfl (.cons rfl (.cons rfl (.cons rfl (.cons rfl (.cons rfl (.cons rfl (.cons rfl (.cons rfl (.cons rfl (.cons rfl (.cons rfl (.cons rfl (.cons rfl .refl))))))))))))))))) (congrArg (fun b=>some (Value.bool b)) (by rw [Bool.eq_iff_iff];simp_all [Aw])) (List.Sublist.refl _) (fun _ h=>h.1)
   ·
    refine QQ rfl (fun hc47=>?_) (fun hc47=>?_)
    ·
     refine QG<|QB<|QA (QE rfl)<|QA (QE rfl)<|QF<|QC<|QR ?_
     exact Jb () rfl (.tmp rfl (.tmp rfl .nil)) (by unfold SH;rw [if_pos hc47]) (fun _ _=>trivial)
    ·
     have hbad:=hc47
     simp only [Aw,Bool.or_eq_false_iff,Bool.not_eq_false',Bool.and_eq_false_iff] at hc47
     have hna:=Ra hc47.1
     have hda:(pt||sl)=true→XF d=true:=fun h=>by
      rcases hc47.2 with g | g
      ·rw [Bool.or_eq_true] at h;rcases h with h | h<;>simp_all
      ·exact Ra g
     have hsz:=CS hna hda ⟨by omega,by omega⟩
     refine QP<|QC<|QG<|QB<|QA (QD rfl)<|QH rfl (fun w F hF hGl=>GM hF (by rw [X8 hna];exact hna) (by omega)) (fun g49=>QH rfl (fun w F hF ⟨hGl,h49⟩=>NS hF (by omega) (by omega)) (fun g50=>QZ ZW (fun b10=>QZ ZW (fun b11=>QS (vs:=[_,_]) rfl rfl rfl Qb rfl (.there .here) (.here (.here .nil)) ⟨rfl,rfl,trivial⟩<|QS (vs:=[_,_]) rfl rfl rfl Qb rfl .here (.here (.here .nil)) ⟨rfl,rfl,trivial⟩<|QF<|QC ?_))))
     refine Ku (ι:=Bg×Bg) (fun j=>[(5,.bool neg),(10,.pointer (some ⟨b10,0,none⟩)),(11,.pointer (some ⟨b11,0,none⟩))]) (fun j=>[(b11,.cells #[.int .i64 j.2.s,.slice j.2.q j.2.n j.2.cap] 128 (0,0)),(b10,.cells #[.int .i64 j.1.s,.slice j.1.q j.1.n j.1.cap] 128 (0,0))]) (fun j F=>JF F∧Js F j.1 (Bo n d pt sl)∧Js F j.2 (PV d pt sl)) ?_ ?_
     ·
      refine Qa<|QG<|QB<|QA (QD rfl)<|QA (QE rfl)<|QF<|QC ?_
      refine QQ rfl (fun hc51=>?_) (fun hc51=>?_)
      ·
       refine QB<|QA (QD rfl)<|QH rfl (fun w F hF ⟨⟨hGl,h49⟩,h50⟩=>GM hF (by rw [X8 (hda (by rw [hc51];simp))];exact hda (by rw [hc51];simp)) (by omega)) (fun g54=>QS (vs:=[_,_]) rfl rfl rfl Qb rfl .here (.here (.here .nil)) ⟨rfl,rfl,trivial⟩<|QF<|Ql ?_)
       exact XC (g49,g54) ⟨rfl,rfl,rfl,trivial⟩ (List.Sublist.refl _) (fun F ⟨⟨⟨hGl,h49⟩,h50⟩,h54⟩=>⟨hGl,(by rw [XE hna] at h49;unfold Bo;rw [if_pos hc51];exact h49),(by rw [XE (hda (by rw [hc51];simp))] at h54;unfold PV;rw [if_pos hc51];exact h54)⟩)
      ·
       refine QG<|QB<|QA (QD rfl)<|QA (QE rfl)<|QF<|QC ?_
       refine QQ rfl (fun hc55=>?_) (fun hc55=>?_)
       ·
        refine QB<|QA (QD rfl)<|QA (QD rfl)<|QA (XR rfl rfl (by omega))<|QH rfl (fun w F hF ⟨⟨hGl,h49⟩,h50⟩=>GM hF (by rw [X8 (show XF (n++d)=true by rw [ZD,hna,hda (by rw [hc55];rfl)];rfl)];exact(show XF (n++d)=true by rw [ZD,hna,hda (by rw [hc55];rfl)];rfl)) (by rw [List.length_append];omega)) (fun g60=>QH rfl (fun w F hF ⟨⟨⟨hGl,h49⟩,h50⟩,h60⟩=>NS hF (by omega) (by omega)) (fun g61=>QA (QD rfl)<|QA (Jq rfl J8)<|QH rfl (fun w F hF ⟨⟨⟨⟨hGl,h49⟩,h50⟩,h60⟩,h61⟩=>Ty (a:=10) hF h61 (by omega) (by omega) (by rw [Int.toNat_natCast,show sz 10=4 by decide];omega)) (fun g64=>QS (vs:=[_,_]) rfl rfl rfl Qb rfl (.there .here) (.here (.here .nil)) ⟨rfl,rfl,trivial⟩<|QS (vs:=[_,_]) rfl rfl rfl Qb rfl .here (.here (.here .nil)) ⟨rfl,rfl,trivial⟩<|QF<|Ql ?_)))
        exact XC (g60,g64) ⟨rfl,rfl,rfl,trivial⟩ (List.Sublist.refl _) (fun F ⟨⟨⟨⟨⟨hGl,h49⟩,h50⟩,h60⟩,h61⟩,h64⟩=>⟨hGl,(by rw [XE (show XF (n++d)=true by rw [ZD,hna,hda (by rw [hc55];rfl)];rfl)] at h60;unfold Bo;rw [if_neg (by rw [hc51];decide),if_pos hc55];exact h60),(by rw [Int.toNat_natCast] at h64;unfold PV;rw [if_neg (by rw [hc51];decide),if_pos hc55];exact h64)⟩)
       ·
        refine QP<|Ql ?_
        exact XC (g49,g50) ⟨rfl,rfl,rfl,trivial⟩ (List.Sublist.refl _) (fun F ⟨⟨hGl,h49⟩,h50⟩=>⟨hGl,(by rw [XE hna] at h49;unfold Bo;rw [if_neg (by rw [hc51];decide),if_neg (by rw [hc55];decide)];exact h49),(by unfold PV;rw [if_neg (by rw [hc51];decide),if_neg (by rw [hc55];decide)];exact h50)⟩)
     ·intro xb0
      refine QG<|QG<|QB<|QA (QJ (vs:=[_,_]) rfl Qb .here (.here (.here .nil)) rfl)<|QH rfl (fun w F hF ⟨hGl,⟨hA,hB⟩⟩=>Dg hF hB) (fun _=>QA (QU rfl rfl rfl)<|QF<|QC ?_)
      refine QQ rfl (fun hc67=>?_) (fun hc67=>?_)
      ·
       refine QG<|QB<|QA (QE rfl)<|QA (QE rfl)<|QF<|QC<|QR ?_
       exact Jb () rfl (.tmp rfl (.tmp rfl .nil)) (by unfold SH;rw [if_neg (by rw [hbad];decide),if_pos (Oh _ (by simpa using hc67))]) (fun _ _=>trivial)
      ·
       refine QP<|QC ?_
       refine Ku (ι:=Bg×Bg) (fun j=>[(5,.bool neg),(10,.pointer (some ⟨b10,0,none⟩)),(11,.pointer (some ⟨b11,0,none⟩))]) (fun j=>[(b11,.cells #[.int .i64 j.2.s,.slice j.2.q j.2.n j.2.cap] 128 (0,0)),(b10,.cells #[.int .i64 j.1.s,.slice j.1.q j.1.n j.1.cap] 128 (0,0))]) (fun j F=>JF F∧Js F j.1 (if neg=true then -(Bo n d pt sl) else(Bo n d pt sl))∧Js F j.2 (PV d pt sl)) ?_ ?_
       ·
        refine QG<|QB<|QA (QD rfl)<|QF<|QC ?_
        refine QQ rfl (fun hc68=>?_) (fun hc68=>?_)
        ·
         refine QB<|QA (QJ (vs:=[_,_]) rfl Qb (.there .here) (.here (.here .nil)) rfl)<|QH rfl (fun w F hF ⟨⟨hGl,⟨hA,hB⟩⟩,_⟩=>EP hF hA) (fun g70=>QS (vs:=[_,_]) rfl rfl rfl Qb rfl (.there .here) (.here (.here .nil)) ⟨rfl,rfl,trivial⟩<|QF ?_)
         exact XC (g70,xb0.2) ⟨rfl,rfl,rfl,trivial⟩ (List.Sublist.refl _) (fun F ⟨⟨⟨hGl,⟨hA,hB⟩⟩,_⟩,h70⟩=>⟨hGl,(by rw [if_pos hc68];exact h70),hB⟩)
        ·
         refine QP ?_
         exact XC (xb0.1,xb0.2) ⟨rfl,rfl,rfl,trivial⟩ (List.Sublist.refl _) (fun F ⟨⟨hGl,⟨hA,hB⟩⟩,_⟩=>⟨hGl,(by rw [if_neg (by rw [hc68];decide)];exact hA),hB⟩)
       ·intro xg17
        refine QG<|QB<|QA (QJ (vs:=[_,_]) rfl Qb (.there .here) (.here (.here .nil)) rfl)<|QA (QJ (vs:=[_,_]) rfl Qb .here (.here (.here .nil)) rfl)<|QH rfl (fun w F hF ⟨hGl,⟨hA,hB⟩⟩=>Nd hF hA hB (fun e=>by rw [e] at hc67;exact absurd hc67 (by decide)) (by split<;>(try rw [YK])<;>omega) (by omega)) (fun x73=>QH rfl (fun w F hF ⟨⟨hGl,⟨hA,hB⟩⟩,⟨h73,h73_⟩⟩=>C6 (r:=Rat.divInt (if neg=true then -(Bo n d pt sl) else(Bo n d pt sl)) (PV d pt sl)) hF hGl ⟨h73,h73_⟩ (Nat.le_trans (Yd (fun e=>by rw [e] at hc67;exact absurd hc67 (by decide))) (by have hq:sz (if neg=true then -(Bo n d pt sl) else(Bo n d pt sl))≤8000000:=(by split<;>(try rw [YK])<;>omega);omega))) (fun _=>QA (QM rfl rfl)<|QA (QM rfl rfl)<|QA (QE rfl)<|QA (QE rfl)<|QF<|QC<|QR ?_))
        exact Jb () rfl (.tmp rfl (.tmp rfl .nil)) (by unfold SH;rw [if_neg (by rw [hbad];decide),if_neg (fun e=>by rw [e] at hc67;exact absurd hc67 (by decide))];rfl) (fun _ _=>trivial)
end
section
open Go.RowKit Ig
section
variable [Dr] [df:Df] {P:Program} {Q:Exit→Act→World→Prop} {N:Nat} {m:Sl} {ops:Array Oper} {l:List Oper} {w0:World} {F0:Gs} {bs:List (Nat×Obj)} {G:Gs→Prop} {d:Nat} {ty:TypeId} {pos:String} {aft:Array Edge}
theorem AG {T:TypeId} {x:Operand} {s:List UInt8} (hx:ev m x=some (tx s)) (hT:GF P T=true) (k:∀ b,JS P ops Q l N ((d,.pointer (some ⟨b,0,none⟩))::m) ⟨w0,F0,(b,.stringIter ⟨s.toArray⟩ 0)::bs,G⟩) (hd:J7 N (some d)=true:=by rfl) :
  JS P ops Q (⟨some d,.range T x,ty,pos,aft,none⟩::l) N m ⟨w0,F0,bs,G⟩:=fun a w ha hw=>by
 unfold GF at hT
 split at hT
 ·rename_i hu
  have hrun:(execOp a.eval ⟨some d,.range T x,ty,pos,aft,none⟩).run P w = .ok (.value (.pointer (some ⟨w.heap.size,0,none⟩))) (w.alloc (.stringIter ⟨s.toArray⟩ 0)):=by
   simp [execOp,ha.ev hx,Instr.range,run_underlying hu,run_newObj,tx]
  exact wpList_plain rfl fun K hK=>upon_value hrun (hK _ _ (k _ _ _ (ha.put hd _) (hw.alloc _ (fun c fr e=>by cases e))))
 ·cases hT
theorem Fg {x:Operand} {s:List UInt8} {b p:Nat} {f:Obj→List (Nat×Obj)} (hx:ev m x=some (.pointer (some ⟨b,0,none⟩))) (ho:Own bs b (.stringIter ⟨s.toArray⟩ p) f) (hp:p<s.length) {c width:Nat} (hdec:Utf8.decode ⟨s.toArray⟩ p=(c,width))
  (k:JS P ops Q l N ((d,.tuple #[.bool true,.int .i64 p,.int .i32 c])::m) ⟨w0,F0,f (.stringIter ⟨s.toArray⟩ (p+width)),G⟩) (hd:J7 N (some d)=true:=by rfl) :
  JS P ops Q (⟨some d,.next x true,ty,pos,aft,none⟩::l) N m ⟨w0,F0,bs,G⟩:=fun a w ha hw=>by
 have hb:=hw.own ho
 obtain ⟨pre,post,e1,e2⟩:=ho.split
 subst e1
 rw [e2] at k
 have hsz:p<(⟨s.toArray⟩:ByteArray).size:=by rw [YY];exact hp
 have hrun:(execOp a.eval ⟨some d,.next x true,ty,pos,aft,none⟩).run P w = .ok (.value (.tuple #[.bool true,.int .i64 p,.int .i32 c])) { w with heap:=w.heap.setIfInBounds b (.stringIter ⟨s.toArray⟩ (p+width)) }:=by
  simp [execOp,ha.ev hx,Instr.next,getObj,setObj,Sem.run,hb,hsz,hdec,goInt]
 exact wpList_plain rfl fun K hK=>upon_value hrun (hK _ _ (k _ _ (ha.put hd _) (hw.write pre ⟨rfl,rfl,rfl,rfl,rfl⟩ (fun c fr e=>by cases e))))
theorem Fh {x:Operand} {s:List UInt8} {b p:Nat} {f:Obj→List (Nat×Obj)} (hx:ev m x=some (.pointer (some ⟨b,0,none⟩))) (ho:Own bs b (.stringIter ⟨s.toArray⟩ p) f) (hp:s.length≤p)
  (k:JS P ops Q l N ((d,.tuple #[.bool false])::m) ⟨w0,F0,bs,G⟩) (hd:J7 N (some d)=true:=by rfl) :
  JS P ops Q (⟨some d,.next x true,ty,pos,aft,none⟩::l) N m ⟨w0,F0,bs,G⟩:=fun a w ha hw=>by
 have hb:=hw.own ho
 have hsz:¬ p<(⟨s.toArray⟩:ByteArray).size:=by rw [YY];omega
 have hrun:(execOp a.eval ⟨some d,.next x true,ty,pos,aft,none⟩).run P w = .ok (.value (.tuple #[.bool false])) w:=by
  simp [execOp,ha.ev hx,Instr.next,getObj,Sem.run,hb,hsz]
 exact wpList_plain rfl fun K hK=>upon_value hrun (hK _ _ (k _ _ (ha.put hd _) hw))
end
theorem decode_high {s:List UInt8} {p:Nat} (hp:p<s.length) (h:¬ s[p].toNat<128):128≤(Utf8.decode ⟨s.toArray⟩ p).1:=by
 have h0:((⟨s.toArray⟩:ByteArray).get! (p+0)).toNat=s[p].toNat:=by
  simp [ByteArray.get!,hp]
 unfold Utf8.decode
 simp only [h0]
 rw [if_neg h]
 split
 ·split
  ·rename_i g;exact g
  ·decide
 ·split
  ·split
   ·rename_i g;simp only [Bool.and_eq_true,decide_eq_true_eq] at g;exact Nat.le_trans (by decide) g.1
   ·decide
  ·split
   ·split
    ·rename_i g;simp only [Bool.and_eq_true,decide_eq_true_eq] at g;exact Nat.le_trans (by decide) g.1
    ·decide
   ·decide
theorem Lr {s:List UInt8} {p:Nat} (hp:p<s.length):∃ c width,Utf8.decode ⟨s.toArray⟩ p=(c,width)∧((s[p].toNat<128∧c=s[p].toNat∧width=1)∨(128≤s[p].toNat∧128≤c)):=by
 have h0:((⟨s.toArray⟩:ByteArray).get! (p+0)).toNat=s[p].toNat:=by
  simp [ByteArray.get!,hp]
 by_cases h:s[p].toNat<128
 ·exact⟨_,_,by unfold Utf8.decode;simp only [h0];rw [if_pos h],.inl ⟨h,rfl,rfl⟩⟩
 ·exact⟨(Utf8.decode ⟨s.toArray⟩ p).1,(Utf8.decode ⟨s.toArray⟩ p).2,rfl,.inr ⟨by omega,decode_high hp h⟩⟩
def Uf (c:Nat):Bool:=(decide (97≤c)&&decide (c≤122))||(decide (65≤c)&&decide (c≤90))
def PA (i c:Nat):Bool:=!Uf c&&(i==0||(!(c==95)&&(decide (c<48)||decide (57<c))))
def Hf:Nat→List UInt8→Bool
 |_,[]=>true
 |i,c::r=>!PA i c.toNat&&Hf (i+1) r
def RJ (s:List UInt8):Bool:=Hf 0 s&&decide (0<s.length)&&decide (s.length≤24)
theorem NR {s:List UInt8} {i:Nat} (hi:i<s.length):Hf i (s.drop i)=(!PA i s[i].toNat&&Hf (i+1) (s.drop (i+1))):=by
 rw [List.drop_eq_getElem_cons hi];rfl
theorem Rj {i c:Nat} (h:128≤c):PA i c=true:=by
 unfold PA Uf
 rw [decide_eq_false (show ¬ c≤122 by omega),decide_eq_false (show ¬ c≤90 by omega),decide_eq_true (show 57<c by omega)]
 have:(c==95)=false:=by simp;omega
 rw [this];simp
theorem Ue {w:World} {F:Gs} {s:List UInt8} (hF:Fits F w) (hl:s.length≤1000000000):QV Tryz.prog 66 [tx s] w F (.bool (RJ s)):=by
 refine QT.intro (G:=fun _=>True) Tryz.func66 rfl (by rfl) rfl rfl hF (fun F' hF'=>trivial)<|QG<|QB<|QA (QE rfl)<|QF<|QC<|QG<|QG<|QB<|QA (QD rfl)<|AG rfl J8 (fun b7=>QF<|QC<|Qa<|XU (ι:=HQ s.length (fun i=>Hf 0 s=Hf i (s.drop i))) (fun i=>[(0,tx s),(7,.pointer (some ⟨b7,0,none⟩))]) (fun i=>[(b7,.stringIter ⟨s.toArray⟩ i.i)]) (fun _ _=>True) (fun i=>s.length - i.i) ⟨0,Nat.zero_le _,rfl⟩ ⟨rfl,rfl,trivial⟩ (List.Sublist.refl _) (fun _ h=>h) (fun i=>?_))
 have hle:=i.le
 rcases Nat.lt_or_ge i.i s.length with hi | hi
 ·
  refine QG<|QB ?_
  obtain ⟨c,wd,hdec,hcase⟩:=Lr hi
  refine Fg rfl .here hi hdec<|QA (QM rfl rfl)<|QF<|QC<|QG<|VC rfl<|QP<|QC<|Qa<|QG<|QB<|QA (QM rfl rfl)<|QA (QM rfl rfl)<|QA (QE rfl)<|QA (QE rfl)<|QF<|QC ?_
  refine Vi 5 (.bool (Uf c)) ?_ ?_
  ·
   refine QB<|QA (QD rfl)<|QA (QU rfl rfl rfl)<|QA (QD rfl) ?_
   refine Qk (t:=14) rfl (fun hb14=>?_) (fun hb14=>?_)
   ·
    refine QL rfl rfl<|QA (QD rfl)<|QL rfl rfl<|QA (QU rfl rfl rfl)<|QA (Qj rfl rfl rfl)<|QA (QD rfl) ?_
    refine Qk (t:=18) rfl (fun hb18=>?_) (fun hb18=>?_)
    ·
     refine QO rfl rfl rfl<|QO rfl rfl rfl<|QO rfl rfl rfl<|JO rfl rfl<|JO rfl rfl<|QO rfl rfl rfl<|QA (Qj rfl rfl rfl)<|QA (QE rfl)<|QF ?_
     exact Jr (.cons rfl (.cons rfl (.cons rfl (.cons rfl (.cons rfl (.cons rfl (.cons rfl (.cons rfl (.cons rfl (.cons rfl (.cons rfl (.cons rfl (.cons rfl (.cons rfl (.cons rfl (.cons rfl (.cons rfl .refl))))))))))))))))) (congrArg (fun b=>some (Value.bool b)) (by rw [Bool.eq_iff_iff];simp_all [Uf];try omega)) (List.Sublist.refl _) (fun _ h=>h)
    ·
     refine QL rfl rfl<|QA (QD rfl)<|QL rfl rfl<|QA (QU rfl rfl rfl)<|QL rfl rfl<|QA (QD rfl) ?_
     refine Qk (t:=21) rfl (fun hb21=>?_) (fun hb21=>?_)
     ·
      refine QL rfl rfl<|QA (QD rfl)<|QL rfl rfl<|QA (QU rfl rfl rfl)<|QL rfl rfl<|QA (Qj rfl rfl rfl)<|QA (Qh rfl rfl rfl)<|QA (QE rfl)<|QF ?_
      exact Jr (.cons rfl (.cons rfl (.cons rfl (.cons rfl (.cons rfl (.cons rfl (.cons rfl (.cons rfl (.cons rfl (.cons rfl (.cons rfl (.cons rfl (.cons rfl (.cons rfl (.cons rfl (.cons rfl (.cons rfl (.cons rfl .refl)))))))))))))))))) (congrArg (fun b=>some (Value.bool b)) (by rw [Bool.eq_iff_iff];simp_all [Uf];try omega)) (List.Sublist.refl _) (fun _ h=>h)
     ·
      refine QO rfl rfl rfl<|QO rfl rfl rfl<|QL rfl rfl<|QA (Qh rfl rfl rfl)<|QA (Qh rfl rfl rfl)<|QA (QE rfl)<|QF ?_
      exact Jr (.cons rfl (.cons rfl (.cons rfl (.cons rfl (.cons rfl (.cons rfl (.cons rfl (.cons rfl (.cons rfl (.cons rfl (.cons rfl (.cons rfl (.cons rfl (.cons rfl (.cons rfl (.cons rfl (.cons rfl (.cons rfl .refl)))))))))))))))))) (congrArg (fun b=>some (Value.bool b)) (by rw [Bool.eq_iff_iff];simp_all [Uf];try omega)) (List.Sublist.refl _) (fun _ h=>h)
   ·
    refine QO rfl rfl rfl<|QO rfl rfl rfl<|QA (Qh rfl rfl rfl)<|QA (QD rfl)<|QL rfl rfl<|QA (QD rfl)<|QL rfl rfl<|QA (QU rfl rfl rfl)<|QL rfl rfl<|QA (QD rfl) ?_
    refine Qk (t:=21) rfl (fun hb21=>?_) (fun hb21=>?_)
    ·
     refine QL rfl rfl<|QA (QD rfl)<|QL rfl rfl<|QA (QU rfl rfl rfl)<|QL rfl rfl<|QA (Qj rfl rfl rfl)<|QA (Qh rfl rfl rfl)<|QA (QE rfl)<|QF ?_
     exact Jr (.cons rfl (.cons rfl (.cons rfl (.cons rfl (.cons rfl (.cons rfl (.cons rfl (.cons rfl (.cons rfl (.cons rfl (.cons rfl (.cons rfl (.cons rfl (.cons rfl (.cons rfl (.cons rfl (.cons rfl .refl))))))))))))))))) (congrArg (fun b=>some (Value.bool b)) (by rw [Bool.eq_iff_iff];simp_all [Uf];try omega)) (List.Sublist.refl _) (fun _ h=>h)
    ·
     refine QO rfl rfl rfl<|QO rfl rfl rfl<|QL rfl rfl<|QA (Qh rfl rfl rfl)<|QA (Qh rfl rfl rfl)<|QA (QE rfl)<|QF ?_
     exact Jr (.cons rfl (.cons rfl (.cons rfl (.cons rfl (.cons rfl (.cons rfl (.cons rfl (.cons rfl (.cons rfl (.cons rfl (.cons rfl (.cons rfl (.cons rfl (.cons rfl (.cons rfl (.cons rfl (.cons rfl .refl))))))))))))))))) (congrArg (fun b=>some (Value.bool b)) (by rw [Bool.eq_iff_iff];simp_all [Uf];try omega)) (List.Sublist.refl _) (fun _ h=>h)
  ·
   refine Vi 43 (.bool (PA i.i c)) ?_ ?_
   ·
    refine QB<|QA (QD rfl)<|QA (YV rfl)<|QA (QD rfl) ?_
    refine Qk (t:=28) rfl (fun hb28=>?_) (fun hb28=>?_)
    ·
     refine QL rfl rfl<|QA (QD rfl)<|QL rfl rfl<|QA (QU rfl rfl rfl)<|QL rfl rfl<|QA (QD rfl) ?_
     refine Qk (t:=31) rfl (fun hb31=>?_) (fun hb31=>?_)
     ·
      refine QO rfl rfl rfl<|QO rfl rfl rfl<|QO rfl rfl rfl<|JO rfl rfl<|JO rfl rfl<|JO rfl rfl<|JO rfl rfl<|JO rfl rfl<|JO rfl rfl<|QO rfl rfl rfl<|QL rfl rfl<|QA (Qj rfl rfl rfl)<|QA (Qj rfl rfl rfl)<|QF ?_
      exact Jr (.cons rfl (.cons rfl (.cons rfl (.cons rfl (.cons rfl (.cons rfl (.cons rfl (.cons rfl (.cons rfl (.cons rfl (.cons rfl (.cons rfl (.cons rfl (.cons rfl (.cons rfl (.cons rfl (.cons rfl (.cons rfl (.cons rfl (.cons rfl .refl)))))))))))))))))))) (congrArg (fun b=>some (Value.bool b)) (by rw [Bool.eq_iff_iff];simp_all [PA];try omega)) (List.Sublist.refl _) (fun _ h=>h)
     ·
      refine QL rfl rfl<|QA (QD rfl)<|QL rfl rfl<|QA (QU rfl rfl rfl)<|QL rfl rfl<|QA (QD rfl) ?_
      refine Qk (t:=34) rfl (fun hb34=>?_) (fun hb34=>?_)
      ·
       refine QL rfl rfl<|QA (QD rfl)<|QL rfl rfl<|QA (QU rfl rfl rfl)<|QL rfl rfl<|QA (QD rfl) ?_
       refine Qk (t:=37) rfl (fun hb37=>?_) (fun hb37=>?_)
       ·
        refine QO rfl rfl rfl<|QO rfl rfl rfl<|QL rfl rfl<|QA (Qj rfl rfl rfl)<|QL rfl rfl<|QA (Qj rfl rfl rfl)<|QL rfl rfl<|QA (Qh rfl rfl rfl)<|QA (Qj rfl rfl rfl)<|QF ?_
        exact Jr (.cons rfl (.cons rfl (.cons rfl (.cons rfl (.cons rfl (.cons rfl (.cons rfl (.cons rfl (.cons rfl (.cons rfl (.cons rfl (.cons rfl (.cons rfl (.cons rfl (.cons rfl (.cons rfl (.cons rfl (.cons rfl (.cons rfl (.cons rfl (.cons rfl (.cons rfl .refl)))))))))))))))))))))) (congrArg (fun b=>some (Value.bool b)) (by rw [Bool.eq_iff_iff];simp_all [PA];try omega)) (List.Sublist.refl _) (fun _ h=>h)
       ·
        refine QL rfl rfl<|QA (QD rfl)<|QL rfl rfl<|QA (QU rfl rfl rfl)<|QL rfl rfl<|QA (Qh rfl rfl rfl)<|QL rfl rfl<|QA (Qj rfl rfl rfl)<|QL rfl rfl<|QA (Qh rfl rfl rfl)<|QA (Qj rfl rfl rfl)<|QF ?_
        exact Jr (.cons rfl (.cons rfl (.cons rfl (.cons rfl (.cons rfl (.cons rfl (.cons rfl (.cons rfl (.cons rfl (.cons rfl (.cons rfl (.cons rfl (.cons rfl (.cons rfl (.cons rfl (.cons rfl (.cons rfl (.cons rfl (.cons rfl (.cons rfl (.cons rfl (.cons rfl .refl)))))))))))))))))))))) (congrArg (fun b=>some (Value.bool b)) (by rw [Bool.eq_iff_iff];simp_all [PA];try omega)) (List.Sublist.refl _) (fun _ h=>h)
      ·
       refine QO rfl rfl rfl<|QO rfl rfl rfl<|QO rfl rfl rfl<|JO rfl rfl<|JO rfl rfl<|QO rfl rfl rfl<|QL rfl rfl<|QA (Qh rfl rfl rfl)<|QL rfl rfl<|QA (Qh rfl rfl rfl)<|QA (Qj rfl rfl rfl)<|QF ?_
       exact Jr (.cons rfl (.cons rfl (.cons rfl (.cons rfl (.cons rfl (.cons rfl (.cons rfl (.cons rfl (.cons rfl (.cons rfl (.cons rfl (.cons rfl (.cons rfl (.cons rfl (.cons rfl (.cons rfl (.cons rfl (.cons rfl (.cons rfl (.cons rfl (.cons rfl .refl))))))))))))))))))))) (congrArg (fun b=>some (Value.bool b)) (by rw [Bool.eq_iff_iff];simp_all [PA];try omega)) (List.Sublist.refl _) (fun _ h=>h)
    ·
     refine QO rfl rfl rfl<|QO rfl rfl rfl<|QO rfl rfl rfl<|JO rfl rfl<|JO rfl rfl<|JO rfl rfl<|JO rfl rfl<|JO rfl rfl<|JO rfl rfl<|JO rfl rfl<|JO rfl rfl<|JO rfl rfl<|JO rfl rfl<|QO rfl rfl rfl<|QA (Qh rfl rfl rfl)<|QF ?_
     exact Jr (.cons rfl (.cons rfl (.cons rfl (.cons rfl (.cons rfl (.cons rfl (.cons rfl (.cons rfl (.cons rfl (.cons rfl (.cons rfl (.cons rfl (.cons rfl (.cons rfl (.cons rfl (.cons rfl (.cons rfl (.cons rfl (.cons rfl .refl))))))))))))))))))) (congrArg (fun b=>some (Value.bool b)) (by rw [Bool.eq_iff_iff];simp_all [PA];try omega)) (List.Sublist.refl _) (fun _ h=>h)
   ·
    refine QQ rfl (fun hc=>?_) (fun hc=>?_)
    ·
     refine QG<|QB<|QA (QE rfl)<|QF<|QC<|QR ?_
     repeat (first | refine JH ?_ | refine JA ?_)
     exact QN () rfl (.tmp rfl .nil) (congrArg Value.bool (by have hb:PA i.i s[i.i].toNat=true:=(by rcases hcase with ⟨_,h2,_⟩ | ⟨h2,_⟩;rw [← h2];exact hc;exact Rj h2);unfold RJ;rw [i.h,NR hi,hb];rfl)) (fun _ _=>trivial)
    ·
     refine QP<|Ql ?_
     rcases hcase with ⟨h1,rfl,rfl⟩ | ⟨_,h2⟩
     ·exact Qo (⟨i.i+1,by omega,i.h.trans (by rw [NR hi,hc];rfl)⟩:HQ s.length (fun i=>Hf 0 s=Hf i (s.drop i))) (by show s.length - (i.i+1)<s.length - i.i;omega) ⟨rfl,rfl,trivial⟩ (List.Sublist.refl _) (fun _ h=>trivial)
     ·rw [Rj h2] at hc;cases hc
 ·
  refine QG<|QB<|Fh rfl .here hi<|QA (QM rfl rfl)<|QF<|QC<|QG<|ZE rfl<|Q5 ?_
  repeat (first | refine Qc ?_ | refine QX (by rfl) ?_)
  refine Qd<|QC<|QG<|QB<|QA (QD rfl)<|QA (Jq rfl J8)<|QA (QU rfl rfl rfl)<|QA (QD rfl) ?_
  refine Qk (t:=47) rfl (fun hb47=>?_) (fun hb47=>?_)
  ·
   refine QL rfl rfl<|QA (QD rfl)<|QL rfl rfl<|QA (Jq rfl J8)<|QL rfl rfl<|QA (QU rfl rfl rfl)<|QA (Qj rfl rfl rfl)<|QA (QE rfl)<|QF<|QC<|QR ?_
   exact QN () rfl (.tmp rfl .nil) (congrArg Value.bool (by have e:=i.h;rw [List.drop_of_length_le hi] at e;unfold RJ;rw [e];have h0:=hb47;rw [Bool.eq_iff_iff];simp [Hf] at *;(try subst h0);(try simp);try omega)) (fun _ _=>trivial)
  ·
   refine QO rfl rfl rfl<|QO rfl rfl rfl<|QO rfl rfl rfl<|QA (Qh rfl rfl rfl)<|QA (QE rfl)<|QF<|QC<|QR ?_
   exact QN () rfl (.tmp rfl .nil) (congrArg Value.bool (by have e:=i.h;rw [List.drop_of_length_le hi] at e;unfold RJ;rw [e];have h0:=hb47;rw [Bool.eq_iff_iff];simp [Hf] at *;(try subst h0);(try simp);try omega)) (fun _ _=>trivial)
end
section
open Go.RowKit Ig
def ahead (p:UInt8→Bool) (s:List UInt8):Nat:=(s.takeWhile (fun c=>!p c)).length
theorem Rl {p:UInt8→Bool} {s:List UInt8} {i:Nat} (hi:i<s.length) (h:(s.take i).all (fun c=>!p c)=true) (hp:p s[i]=true):ahead p s=i:=by
 unfold ahead
 have e:s=s.take i++s[i]::s.drop (i+1):=by rw [← List.drop_eq_getElem_cons hi,List.take_append_drop]
 have hl:(s.take i).length=i:=by simp;omega
 rw [e,List.takeWhile_append_of_pos (by simpa using h),List.takeWhile_cons]
 simp [hp];omega
theorem Rm {p:UInt8→Bool} {s:List UInt8} (h:s.all (fun c=>!p c)=true):ahead p s=s.length:=by
 unfold ahead
 induction s with
 |nil=>rfl
 |cons c s ih =>
  simp only [List.all_cons,Bool.and_eq_true] at h
  rw [List.takeWhile_cons,if_pos h.1,List.length_cons,ih h.2,List.length_cons]
theorem Hm {p:UInt8→Bool} {s:List UInt8} {i:Nat} (hi:i<s.length) (h:(s.take i).all p=true) (hp:p s[i]=true):(s.take (i+1)).all p=true:=by
 rw [List.take_succ_eq_append_getElem hi,List.all_append,h];simp [hp]
def Jp (c:UInt8):Bool:=c==47
theorem GA {c d:UInt8} {z:Int} (hz:z=(d.toNat:Int)):((c.toNat:Int)==z)=(c==d):=by
 rw [Bool.eq_iff_iff]
 simp only [beq_iff_eq]
 constructor
 ·intro h
  apply UInt8.toNat.inj
  omega
 ·rintro rfl
  exact hz.symm
theorem VP {w:World} {F:Gs} {s:List UInt8} (hF:Fits F w) (hl:s.length≤1000000000):QV Tryz.prog 117 [tx s] w F (.int .i64 (ahead Jp s)):=by
 refine QT.intro (G:=fun _=>True) Tryz.func117 rfl (by rfl) rfl rfl hF (fun F' hF'=>trivial)<|QG<|QB<|QA (QE rfl)<|QF<|QC<|QG<|QG<|QB<|QA (QE rfl)<|QF<|QC<|Qa<|XU (ι:=HQ s.length (fun i=>(s.take i).all (fun c=>!Jp c)=true)) (fun i=>[(0,tx s),(3,.int .i64 i.i)]) (fun _=>[]) (fun _ _=>True) (fun i=>s.length - i.i) ⟨0,Nat.zero_le _,rfl⟩ ⟨rfl,rfl,trivial⟩ (List.Sublist.refl _) (fun _ h=>trivial) (fun i=>?_)
 have hle:=i.le
 refine QG<|QG<|QB<|QA (QD rfl)<|QA (QD rfl)<|QA (Jq rfl J8)<|QA (QU rfl rfl rfl)<|QF<|QC ?_
 refine QQ rfl (fun hc=>?_) (fun hc=>?_)
 ·
  have hi:i.i<s.length:=by simp at hc;omega
  clear hc
  refine QP<|QC<|QG<|Qa<|QG<|QB<|QA (QD rfl)<|QA (QD rfl)<|QA (KI rfl rfl J8 (hi))<|QA (QU rfl rfl rfl)<|QF<|QC ?_
  refine QQ rfl (fun hc=>?_) (fun hc=>?_)
  ·
   refine QG<|QB<|QA (QD rfl)<|QA (QE rfl)<|QF<|QC<|QR ?_
   repeat (first | refine JH ?_ | refine JA ?_)
   exact QN () rfl (.tmp rfl .nil) (congrArg (fun n:Nat=>Value.int .i64 (n:Int)) (Rl hi i.h (by unfold Jp;have:=hc;rw [GA (d:=47) (z:=47) rfl] at this;simpa using this))) (fun _ _=>trivial)
  ·
   refine QP<|Ql<|QC<|QB<|QA (QD rfl)<|QA (Qu rfl rfl (by omega))<|QA (QE rfl)<|QF ?_
   exact Qo (⟨i.i+1,by omega,Hm hi i.h (by unfold Jp;have:=hc;rw [GA (d:=47) (z:=47) rfl] at this;simpa using this)⟩:HQ s.length (fun i=>(s.take i).all (fun c=>!Jp c)=true)) (by show s.length - (i.i+1)<s.length - i.i;omega) ⟨rfl,rfl,trivial⟩ (List.Sublist.refl _) (fun _ h=>trivial)
 ·
  refine Q5 ?_
  repeat (first | refine Qc ?_ | refine QX (by rfl) ?_)
  refine Qd<|QC<|QG<|QB<|QA (QD rfl)<|QA (Jq rfl J8)<|QA (QE rfl)<|QF<|QC<|QR ?_
  exact QN () rfl (.tmp rfl .nil) (congrArg (fun n:Nat=>Value.int .i64 (n:Int)) (Rm (by have e:=i.h;rw [List.take_of_length_le (by simp at hc;omega)] at e;exact e))) (fun _ _=>trivial)
theorem P2 {w:World} {F:Gs} {s:List UInt8} (hF:Fits F w) (hl:s.length≤1000000000):QV Tryz.prog 175 [tx s] w F (.bool (XF s)):=by
 refine QT.intro (G:=fun _=>True) Tryz.func175 rfl (by rfl) rfl rfl hF (fun F' hF'=>trivial)<|QG<|QB<|QA (QE rfl)<|QF<|QC<|QG<|QG<|QB<|QA (QE rfl)<|QF<|QC<|Qa<|XU (ι:=HQ s.length (fun i=>(s.take i).all TE=true)) (fun i=>[(0,tx s),(3,.int .i64 i.i)]) (fun _=>[]) (fun _ _=>True) (fun i=>s.length - i.i) ⟨0,Nat.zero_le _,rfl⟩ ⟨rfl,rfl,trivial⟩ (List.Sublist.refl _) (fun _ h=>trivial) (fun i=>?_)
 have hle:=i.le
 refine QG<|QG<|QB<|QA (QD rfl)<|QA (QD rfl)<|QA (Jq rfl J8)<|QA (QU rfl rfl rfl)<|QF<|QC ?_
 refine QQ rfl (fun hc=>?_) (fun hc=>?_)
 ·
  have hi:i.i<s.length:=by simp at hc;omega
  clear hc
  refine QP<|QC<|QG<|Qa<|QG<|QB<|QA (QD rfl)<|QA (QD rfl)<|QA (KI rfl rfl J8 (hi))<|QA (QU rfl rfl rfl)<|QA (QD rfl) ?_
  refine Qk (t:=14) rfl (fun hb14=>?_) (fun hb14=>?_)
  ·
   refine QO rfl rfl rfl<|QO rfl rfl rfl<|QO rfl rfl rfl<|QO rfl rfl rfl<|QA (Qj rfl rfl rfl)<|QF<|QC<|VC rfl<|QG<|QB<|QA (QE rfl)<|QF<|QC<|QR ?_
   repeat (first | refine JH ?_ | refine JA ?_)
   exact QN () rfl (.tmp rfl .nil) (congrArg Value.bool (by rw [MD hi (by have h1:=of_decide_eq_true hb14;cases hd:TE s[i.i] with | false=>rfl | true=>(have:=YD.1 hd;omega))])) (fun _ _=>trivial)
  ·
   refine QL rfl rfl<|QA (QD rfl)<|QL rfl rfl<|QA (QD rfl)<|QL rfl rfl<|QA (KI rfl rfl J8 (hi))<|QL rfl rfl<|QA (QU rfl rfl rfl)<|QA (Qh rfl rfl rfl)<|QF<|QC ?_
   refine QQ rfl (fun hc=>?_) (fun hc=>?_)
   ·
    refine QG<|QB<|QA (QE rfl)<|QF<|QC<|QR ?_
    repeat (first | refine JH ?_ | refine JA ?_)
    exact QN () rfl (.tmp rfl .nil) (congrArg Value.bool (by rw [MD hi (by have h1:=of_decide_eq_true hc;cases hd:TE s[i.i] with | false=>rfl | true=>(have:=YD.1 hd;omega))])) (fun _ _=>trivial)
   ·
    refine QP<|Ql<|QC<|QB<|QA (QD rfl)<|QA (Qu rfl rfl (by omega))<|QA (QE rfl)<|QF ?_
    exact Qo (⟨i.i+1,by omega,Hm hi i.h (YD.2 (by have h1:=of_decide_eq_false hb14;have h2:=of_decide_eq_false hc;constructor<;>omega))⟩:HQ s.length (fun i=>(s.take i).all TE=true)) (by show s.length - (i.i+1)<s.length - i.i;omega) ⟨rfl,rfl,trivial⟩ (List.Sublist.refl _) (fun _ h=>trivial)
 ·
  refine Q5 ?_
  repeat (first | refine Qc ?_ | refine QX (by rfl) ?_)
  refine Qd<|QC<|QG<|QB<|QA (QE rfl)<|QF<|QC<|QR ?_
  exact QN () rfl (.tmp rfl .nil) (congrArg Value.bool (by have e:=i.h;rw [List.take_of_length_le (by simp at hc;omega)] at e;exact e)) (fun _ _=>trivial)
theorem qA {s:List UInt8} (h1:(1:Int)<(s.length:Int)) (h:s[0]'(by omega)=48):J1 s=false:=by
 cases s with
 |nil=>simp at h1
 |cons c r =>
  have hc:c=48:=h
  subst hc
  have hr:r≠[]:=by intro e;subst e;simp at h1
  simp [J1,hr]
theorem Lh {s:List UInt8} (h1:(1:Int)<(s.length:Int)) (h:¬ s[0]'(by omega)=48):J1 s=XF s:=by
 cases s with
 |nil=>simp at h1
 |cons c r =>
  have hc:¬ c=48:=h
  simp [J1,hc]
theorem C9 {s:List UInt8} (h0:0<s.length) (h1:s.length≤1):J1 s=XF s:=by
 match s,h0,h1 with
 |[c],_,_ =>
  by_cases hc:c=48
  ·subst hc;rfl
  ·simp [J1,hc]
theorem F2 {w:World} {F:Gs} {s:List UInt8} (hF:Fits F w) (hl:s.length≤1000000000):QV Tryz.prog 118 [tx s] w F (.bool (J1 s)):=by
 refine QT.intro (G:=fun _=>True) Tryz.func118 rfl (by rfl) rfl rfl hF (fun F' hF'=>trivial)<|QG<|QB<|QA (QE rfl)<|QF<|QC<|QG<|QG<|QB<|QA (QD rfl)<|QA (Jq rfl J8)<|QA (QU rfl rfl rfl)<|QA (QD rfl) ?_
 refine Qk (t:=6) rfl (fun hb6=>?_) (fun hb6=>?_)
 ·
  refine QO rfl rfl rfl<|QO rfl rfl rfl<|QO rfl rfl rfl<|QO rfl rfl rfl<|JO rfl rfl<|JO rfl rfl<|JO rfl rfl<|QO rfl rfl rfl<|QA (Qj rfl rfl rfl)<|QF<|QC<|VC rfl<|QG<|QB<|QA (QE rfl)<|QF<|QC<|QR ?_
  exact QN () rfl (.tmp rfl .nil) (congrArg Value.bool (by have h0:s=[]:=(by simpa using hb6);subst h0;rfl)) (fun _ _=>trivial)
 ·
  refine QL rfl rfl<|QA (QD rfl)<|QL rfl rfl<|QA (Jq rfl J8)<|QL rfl rfl<|QA (QU rfl rfl rfl)<|QL rfl rfl<|QA (QD rfl) ?_
  refine Qk (t:=10) rfl (fun hb10=>?_) (fun hb10=>?_)
  ·
   refine QL rfl rfl<|QA (QD rfl)<|QL rfl rfl<|QA (KI (i:=0) rfl rfl J8 (by have:=of_decide_eq_true hb10;omega))<|QL rfl rfl<|QA (QU rfl rfl rfl)<|QL rfl rfl<|QA (Qj rfl rfl rfl)<|QA (Qh rfl rfl rfl)<|QF<|QC ?_
   refine QQ rfl (fun hc=>?_) (fun hc=>?_)
   ·
    refine QG<|QB<|QA (QE rfl)<|QF<|QC<|QR ?_
    exact QN () rfl (.tmp rfl .nil) (congrArg Value.bool (qA (of_decide_eq_true hb10) (by have h:=hc;rw [GA (d:=48) (z:=48) rfl] at h;simpa using h))) (fun _ _=>trivial)
   ·
    refine QP<|QC<|QG<|QB<|QA (QD rfl)<|QH rfl (fun w F hF _=>P2 hF hl) (fun _=>QA (QE rfl)<|QF<|QC<|QR ?_)
    exact QN () rfl (.tmp rfl .nil) (congrArg Value.bool (Lh (of_decide_eq_true hb10) (by have h:=hc;rw [GA (d:=48) (z:=48) rfl] at h;simpa using h))) (fun _ _=>trivial)
  ·
   refine QO rfl rfl rfl<|QO rfl rfl rfl<|QO rfl rfl rfl<|QL rfl rfl<|QA (Qh rfl rfl rfl)<|QA (Qh rfl rfl rfl)<|QF<|QC<|ZE rfl<|QP<|QC<|QG<|QB<|QA (QD rfl)<|QH rfl (fun w F hF _=>P2 hF hl) (fun _=>QA (QE rfl)<|QF<|QC<|QR ?_)
   exact QN () rfl (.tmp rfl .nil) (congrArg Value.bool (C9 (List.length_pos_iff.2 (by simpa using hb6)) (by have h:=of_decide_eq_false hb10;omega))) (fun _ _=>trivial)
end
section
open Go.RowKit Ig
def W1 (s:List UInt8):Int:=if s=[48] then 0 else if Lib.hasPrefix s [45]=true then -1 else 1
def A1 (s:List UInt8):List UInt8:=if W1 s<0 then s.drop 1 else if W1 s=0 then s else 45::s
def U9 (s:List UInt8):List UInt8:=if W1 s<0 then s.drop 1 else s
def numOf (s:List UInt8):List UInt8:=s.take (ahead Jp s)
def EZ (s:List UInt8):List UInt8:=if ahead Jp s=s.length then [49] else s.drop (ahead Jp s+1)
def YN (s:List UInt8):Int:=if(decide (600<(U9 (numOf s)).length)||decide (600<(EZ s).length))=true then 4 else 0
theorem Y5 (p:UInt8→Bool) (s:List UInt8):ahead p s≤s.length:=(List.takeWhile_sublist _).length_le
theorem Y1 {s:List UInt8} (h:0<s.length):Lib.hasPrefix s [45]=(s[0]==45):=by
 cases s with
 |nil=>simp at h
 |cons c r =>
  have e:Lib.hasPrefix (c::r) [45]=(45==c):=by simp [Lib.hasPrefix,List.isPrefixOf]
  rw [e,Bool.eq_iff_iff]
  simp only [List.getElem_cons_zero,beq_iff_eq]
  exact⟨fun h=>h.symm,fun h=>h.symm⟩
theorem BY {s:List UInt8} (h:W1 s<0):0<s.length:=by
 cases s with
 |nil=>exact absurd h (by decide)
 |cons=>simp
theorem MB {w:World} {F:Gs} {s:List UInt8} (hF:Fits F w):QV Tryz.prog 38 [tx s] w F (.int .i64 (W1 s)):=by
 refine QT.intro (G:=fun _=>True) Tryz.func38 rfl (by rfl) rfl rfl hF (fun F' hF'=>trivial)<|QG<|QB<|QA (QE rfl)<|QF<|QC<|QG<|QG<|QB<|QA (QD rfl)<|QA (Za rfl rfl)<|QF<|QC ?_
 refine QQ rfl (fun hc4=>?_) (fun hc4=>?_)
 ·
  refine QG<|QB<|QA (QE rfl)<|QF<|QC<|QR ?_
  exact QN () rfl (.tmp rfl .nil) (congrArg (Value.int .i64) (by unfold W1;rw [if_pos (by simpa using hc4)])) (fun _ _=>trivial)
 ·
  refine QP<|QC<|QG<|QG<|QB<|QA (QD rfl)<|QA (Jq rfl WE)<|QA (QU rfl rfl rfl)<|QA (QD rfl) ?_
  refine Qk (t:=8) rfl (fun hb8=>?_) (fun hb8=>?_)
  ·
   refine QL rfl rfl<|QA (QD rfl)<|QL rfl rfl<|QA (KI (i:=0) rfl rfl WE (by have:=of_decide_eq_true hb8;omega))<|QL rfl rfl<|QA (QU rfl rfl rfl)<|QA (Qj rfl rfl rfl)<|QF<|QC ?_
   refine QQ rfl (fun hc=>?_) (fun hc=>?_)
   ·
    refine QG<|QB<|QA (QE rfl)<|QF<|QC<|QR ?_
    exact QN () rfl (.tmp rfl .nil) (congrArg (Value.int .i64) (by unfold W1;rw [if_neg (by simpa using hc4),if_pos];rw [Y1 (by have:=of_decide_eq_true hb8;omega),← GA (z:=45) rfl];exact hc)) (fun _ _=>trivial)
   ·
    refine QP<|QC<|QG<|QB<|QA (QE rfl)<|QF<|QC<|QR ?_
    exact QN () rfl (.tmp rfl .nil) (congrArg (Value.int .i64) (by unfold W1;rw [if_neg (by simpa using hc4),if_neg];rw [Y1 (by have:=of_decide_eq_true hb8;omega),← GA (z:=45) rfl,hc];decide)) (fun _ _=>trivial)
  ·
   refine QO rfl rfl rfl<|QO rfl rfl rfl<|QO rfl rfl rfl<|QA (Qh rfl rfl rfl)<|QF<|QC<|ZE rfl<|QP<|QC<|QG<|QB<|QA (QE rfl)<|QF<|QC<|QR ?_
   exact QN () rfl (.tmp rfl .nil) (congrArg (Value.int .i64) (by have h0:s=[]:=(by have:=hb8;simp at this;exact this);subst h0;rfl)) (fun _ _=>trivial)
theorem Ov {w:World} {F:Gs} {s:List UInt8} (hF:Fits F w) (hl:s.length≤1000000000):QV Tryz.prog 35 [tx s] w F (tx (A1 s)):=by
 refine QT.intro (G:=fun _=>True) Tryz.func35 rfl (by rfl) rfl rfl hF (fun F' hF'=>trivial)<|QG<|QB<|QA (QE rfl)<|QF<|QC<|QG<|QG<|QB<|QA (QD rfl)<|QH rfl (fun w F hF _=>MB hF ) (fun _=>QA (QU rfl rfl rfl)<|QF<|QC ?_)
 refine QQ rfl (fun hc5=>?_) (fun hc5=>?_)
 ·
  refine QG<|QB<|QA (QD rfl)<|QA (Zu 1 rfl rfl WE rfl (BY (of_decide_eq_true hc5)))<|QA (QE rfl)<|QF<|QC<|QR ?_
  exact QN () rfl (.tmp rfl .nil) (congrArg tx (by unfold A1;rw [if_pos (of_decide_eq_true hc5)])) (fun _ _=>trivial)
 ·
  refine QP<|QC<|QG<|QG<|QB<|QA (QD rfl)<|QH rfl (fun w F hF ⟨_,_⟩=>MB hF ) (fun _=>QA (QU rfl rfl rfl)<|QF<|QC ?_)
  refine QQ rfl (fun hc10=>?_) (fun hc10=>?_)
  ·
   refine QG<|QB<|QA (QD rfl)<|QA (QE rfl)<|QF<|QC<|QR ?_
   exact QN () rfl (.tmp rfl .nil) (congrArg tx (by unfold A1;rw [if_neg (of_decide_eq_false hc5),if_pos (by simpa using hc10)])) (fun _ _=>trivial)
  ·
   refine QP<|QC<|QG<|QB<|QA (QD rfl)<|QA (XR rfl rfl (by simp;omega))<|QA (QE rfl)<|QF<|QC<|QR ?_
   exact QN () rfl (.tmp rfl .nil) (congrArg tx (by unfold A1;rw [if_neg (of_decide_eq_false hc5),if_neg (by simpa using hc10)];rfl)) (fun _ _=>trivial)
theorem zo {w:World} {F:Gs} {s:List UInt8} (hF:Fits F w):QV Tryz.prog 33 [tx s] w F (tx (U9 s)):=by
 refine QT.intro (G:=fun _=>True) Tryz.func33 rfl (by rfl) rfl rfl hF (fun F' hF'=>trivial)<|QG<|QB<|QA (QE rfl)<|QF<|QC<|QG<|QG<|QB<|QA (QD rfl)<|QH rfl (fun w F hF _=>MB hF ) (fun _=>QA (QU rfl rfl rfl)<|QF<|QC ?_)
 refine QQ rfl (fun hc=>?_) (fun hc=>?_)
 ·
  refine QG<|QB<|QA (QD rfl)<|QA (Zu 1 rfl rfl WE rfl (BY (of_decide_eq_true hc)))<|QA (QE rfl)<|QF<|QC<|QR ?_
  exact QN () rfl (.tmp rfl .nil) (congrArg tx (by unfold U9;rw [if_pos (of_decide_eq_true hc)])) (fun _ _=>trivial)
 ·
  refine QP<|QC<|QG<|QB<|QA (QD rfl)<|QA (QE rfl)<|QF<|QC<|QR ?_
  exact QN () rfl (.tmp rfl .nil) (congrArg tx (by unfold U9;rw [if_neg (of_decide_eq_false hc)])) (fun _ _=>trivial)
theorem On {w:World} {F:Gs} {s:List UInt8} (hF:Fits F w) (hl:s.length≤1000000000):QV Tryz.prog 36 [tx s] w F (.bool (ahead Jp s==s.length)):=by
 refine QT.intro (G:=fun _=>True) Tryz.func36 rfl (by rfl) rfl rfl hF (fun F' hF'=>trivial)<|QG<|QB<|QA (QE rfl)<|QF<|QC<|QG<|QB<|QA (QD rfl)<|QH rfl (fun w F hF _=>VP hF hl) (fun _=>QA (QD rfl)<|QA (Jq rfl WE)<|QA (QU rfl rfl rfl)<|QA (QE rfl)<|QF<|QC<|QR ?_)
 exact QN () rfl (.tmp rfl .nil) (congrArg Value.bool (by rw [Bool.eq_iff_iff];simp;try omega)) (fun _ _=>trivial)
theorem zi {w:World} {F:Gs} {s:List UInt8} (hF:Fits F w) (hl:s.length≤1000000000):QV Tryz.prog 204 [tx s] w F (tx (numOf s)):=by
 refine QT.intro (G:=fun _=>True) Tryz.func204 rfl (by rfl) rfl rfl hF (fun F' hF'=>trivial)<|QG<|QB<|QA (QE rfl)<|QF<|QC<|QG<|QB<|QA (QD rfl)<|QA (QD rfl)<|QH rfl (fun w F hF _=>VP hF hl) (fun _=>QA (Vv (ahead Jp s) rfl rfl WE rfl (Y5 _ _))<|QA (QE rfl)<|QF<|QC<|QR ?_)
 exact QN () rfl (.tmp rfl .nil) (rfl) (fun _ _=>trivial)
theorem zk {w:World} {F:Gs} {s:List UInt8} (hF:Fits F w) (hl:s.length≤1000000000):QV Tryz.prog 205 [tx s] w F (tx (EZ s)):=by
 refine QT.intro (G:=fun _=>True) Tryz.func205 rfl (by rfl) rfl rfl hF (fun F' hF'=>trivial)<|QG<|QB<|QA (QE rfl)<|QF<|QC<|QG<|QB<|QA (QD rfl)<|QH rfl (fun w F hF _=>VP hF hl) (fun _=>QA (QE rfl)<|QF<|QC<|QG<|QG<|QB<|QA (QD rfl)<|QA (QD rfl)<|QA (Jq rfl WE)<|QA (QU rfl rfl rfl)<|QF<|QC ?_)
 refine QQ rfl (fun hc=>?_) (fun hc=>?_)
 ·
  refine QG<|QB<|QA (QE rfl)<|QF<|QC<|QR ?_
  exact QN () rfl (.tmp rfl .nil) (congrArg tx (by unfold EZ;rw [if_pos (by simp at hc;omega)])) (fun _ _=>trivial)
 ·
  refine QP<|QC<|QG<|QB<|QA (QD rfl)<|QA (QD rfl)<|QA (Qu rfl rfl (by have:=Y5 Jp s;omega))<|QA (Zu (ahead Jp s+1) rfl rfl WE rfl (by have:=Y5 Jp s;simp at hc;omega))<|QA (QE rfl)<|QF<|QC<|QR ?_
  exact QN () rfl (.tmp rfl .nil) (congrArg tx (by unfold EZ;rw [if_neg (by simp at hc;omega)])) (fun _ _=>trivial)
theorem To {w:World} {F:Gs} {s:List UInt8} (hF:Fits F w) (hl:s.length≤1000000000):QV Tryz.prog 124 [tx s] w F (.int .i64 (YN s)):=by
 refine QT.intro (G:=fun _=>True) Tryz.func124 rfl (by rfl) rfl rfl hF (fun F' hF'=>trivial)<|QG<|QB<|QA (QE rfl)<|QF<|QC<|QG<|QG<|QB<|QA (QD rfl)<|QH rfl (fun w F hF _=>zi hF hl) (fun _=>QH rfl (fun w F hF ⟨_,_⟩=>zo hF ) (fun _=>QA (Jq rfl WE)<|QA (QU rfl rfl rfl)<|QA (QD rfl) ?_))
 refine Qk (t:=8) rfl (fun hb8=>?_) (fun hb8=>?_)
 ·
  refine QO rfl rfl rfl<|QO rfl rfl rfl<|QO rfl rfl rfl<|QO rfl rfl rfl<|QA (Qj rfl rfl rfl)<|QF<|QC<|VC rfl<|QG<|QB<|QA (QE rfl)<|QF<|QC<|QR ?_
  exact QN () rfl (.tmp rfl .nil) (congrArg (Value.int .i64) (by have h:=of_decide_eq_true hb8;unfold YN;rw [if_pos (by rw [decide_eq_true (by omega)];rfl)])) (fun _ _=>trivial)
 ·
  refine QL rfl rfl<|QA (QD rfl)<|QL rfl rfl<|QH rfl (fun w F hF ⟨⟨_,_⟩,_⟩=>zk hF hl) (fun _=>QL rfl rfl<|QA (Jq rfl WE)<|QL rfl rfl<|QA (QU rfl rfl rfl)<|QA (Qh rfl rfl rfl)<|QF<|QC ?_)
  refine QQ rfl (fun hc=>?_) (fun hc=>?_)
  ·
   refine QG<|QB<|QA (QE rfl)<|QF<|QC<|QR ?_
   exact QN () rfl (.tmp rfl .nil) (congrArg (Value.int .i64) (by have h:=of_decide_eq_true hc;unfold YN;rw [if_pos (by rw [decide_eq_true (show 600<(EZ s).length by omega),Bool.or_true])])) (fun _ _=>trivial)
  ·
   refine QP<|QC<|QG<|QB<|QA (QE rfl)<|QF<|QC<|QR ?_
   exact QN () rfl (.tmp rfl .nil) (congrArg (Value.int .i64) (by have h:=of_decide_eq_false hc;have h8:=of_decide_eq_false hb8;unfold YN;rw [if_neg (by rw [decide_eq_false (by omega),decide_eq_false (by omega)];decide)])) (fun _ _=>trivial)
end
section
open Go.RowKit Ig
theorem Er {s:List UInt8} {i:Nat} (hi:i<s.length):Q9 (s.take (i+1))=Q9 (s.take i)*10+(s[i].toNat - 48):=by
 rw [List.take_succ_eq_append_getElem hi,Z9,VF];simp
theorem yu {s:List UInt8} {i:Nat} (hi:i<s.length) (h:XF s=true):48≤s[i].toNat∧s[i].toNat≤57:=by
 rw [XF,List.all_eq_true] at h
 exact YD.1 (h _ (List.getElem_mem hi))
theorem Bb {w:World} {F:Gs} {s:List UInt8} (hF:Fits F w) (hs:XF s=true) (hl:s.length≤18):QV Tryz.prog 232 [tx s] w F (.int .i64 (Q9 s)):=by
 refine QT.intro (G:=fun _=>True) Tryz.func232 rfl (by rfl) rfl rfl hF (fun F' hF'=>trivial)<|QG<|QB<|QA (QE rfl)<|QF<|QC<|QG<|QB<|QA (QE rfl)<|QF<|QC<|QG<|QG<|QB<|QA (QE rfl)<|QF<|QC<|Qa<|XU (ι:=HQ s.length (fun _=>True)) (fun i=>[(0,tx s),(3,.int .i64 (Q9 (s.take i.i))),(4,.int .i64 i.i)]) (fun _=>[]) (fun _ _=>True) (fun i=>s.length - i.i) ⟨0,Nat.zero_le _,trivial⟩ ⟨rfl,rfl,rfl,trivial⟩ (List.Sublist.refl _) (fun _ h=>trivial) (fun i=>?_)
 have hle:=i.le
 have hlt:=VQ (G4 hs i.i)
 have hp18:(10:Nat)^(s.take i.i).length≤10^18:=Nat.pow_le_pow_right (by decide) (by simp;omega)
 refine QG<|QG<|QB<|QA (QD rfl)<|QA (QD rfl)<|QA (Jq rfl J8)<|QA (QU rfl rfl rfl)<|QF<|QC ?_
 refine QQ rfl (fun hc=>?_) (fun hc=>?_)
 ·
  have hi:i.i<s.length:=by simp at hc;omega
  have hd:=yu hi hs
  have hp17:(10:Nat)^(s.take i.i).length≤10^17:=Nat.pow_le_pow_right (by decide) (by simp;omega)
  refine QP<|QC<|QG<|Qa<|QB<|QA (QD rfl)<|QA (WI rfl rfl (by omega))<|QA (QD rfl)<|QA (QD rfl)<|QA (KI rfl rfl J8 (hi))<|QA (I3 rfl vd dJ (by omega))<|QA (Qu rfl rfl (by omega))<|QA (Jx rfl rfl (by omega))<|QA (QE rfl)<|QF<|Ql<|QC<|QB<|QA (QD rfl)<|QA (Qu rfl rfl (by omega))<|QA (QE rfl)<|QF ?_
  exact Qo (⟨i.i+1,by omega,trivial⟩:HQ s.length (fun _=>True)) (by show s.length - (i.i+1)<s.length - i.i;omega) ⟨rfl,(by show some (Value.int .i64 _)=some (Value.int .i64 _);rw [Er hi];congr 2;omega),rfl,trivial⟩ (List.Sublist.refl _) (fun _ h=>trivial)
 ·
  refine Q5 ?_
  repeat (first | refine Qc ?_ | refine QX (by rfl) ?_)
  refine Qd<|QC<|QG<|QB<|QA (QD rfl)<|QA (QE rfl)<|QF<|QC<|QR ?_
  exact QN () rfl (.tmp rfl .nil) (congrArg (Value.int .i64) (by rw [List.take_of_length_le (by simp at hc;omega)])) (fun _ _=>trivial)
structure vL (a b:Nat) where
 x:Nat
 y:Nat
 h:Nat.gcd x y=Nat.gcd a b
 hx:x≤9223372036854775807
 hy:y≤9223372036854775807
theorem zj {w:World} {F:Gs} {a b:Nat} (hF:Fits F w) (ha:a≤9223372036854775807) (hb:b≤9223372036854775807):QV Tryz.prog 181 [.int .i64 (a:Int),.int .i64 (b:Int)] w F (.int .i64 (Nat.gcd a b:Nat)):=by
 refine QT.intro (G:=fun _=>True) Tryz.func181 rfl (by rfl) rfl rfl hF (fun F' hF'=>trivial)<|QG<|QB<|QA (QE rfl)<|QF<|QC<|QG<|Qa<|XU (ι:=vL a b) (fun i=>[(0,.int .i64 (i.x:Int)),(1,.int .i64 (i.y:Int))]) (fun _=>[]) (fun _ _=>True) (fun i=>i.y) ⟨a,b,rfl,ha,hb⟩ ⟨rfl,rfl,trivial⟩ (List.Sublist.refl _) (fun _ h=>trivial) (fun i=>?_)
 have hx:=i.hx
 have hy:=i.hy
 refine QG<|QG<|QB<|QA (QD rfl)<|QA (QU rfl rfl rfl)<|QF<|QC ?_
 refine QQ rfl (fun hc=>?_) (fun hc=>?_)
 ·
  have hpos:0<i.y:=by simp at hc;omega
  refine QP<|QC<|Qa<|JG (List.Sublist.refl _) mixed (by kernel_rfl)<|QK (QD rfl)<|QK (QD rfl)<|QK (QD rfl)<|QK (KH rfl rfl (by omega) (by omega))<|QK (QE rfl)<|QK (QE rfl)<|Q2<|Ql ?_
  exact Qo (⟨i.y,i.x%i.y,by rw [← i.h,Nat.gcd_comm i.x,Nat.gcd_rec i.y i.x,Nat.gcd_comm],hy,by have:=Nat.mod_lt i.x hpos;omega⟩:vL a b) (Nat.mod_lt i.x hpos) ⟨rfl,rfl,trivial⟩ (List.Sublist.refl _) (fun _ h=>trivial)
 ·
  refine Q5 ?_
  repeat (first | refine Qc ?_ | refine QX (by rfl) ?_)
  refine Qd<|QC<|QG<|QB<|QA (QD rfl)<|QA (QE rfl)<|QF<|QC<|QR ?_
  exact QN () rfl (.tmp rfl .nil) (congrArg (fun n:Nat=>Value.int .i64 (n:Int)) (by have h0:i.y=0:=(by simp at hc;omega);rw [← i.h,h0,Nat.gcd_zero_right])) (fun _ _=>trivial)
def D0 (n least:Nat):List UInt8:=VU least (hd n)
theorem IL {n:Nat} (h:0<n):hd n=hd (n / 10)++[UInt8.ofNat (48+n%10)]:=by
 unfold hd
 rw [if_neg (by omega)]
 by_cases h0:n / 10=0
 ·rw [if_pos h0,Lib.decDigits,dif_pos (by omega),Nat.mod_eq_of_lt (by omega)];rfl
 ·rw [if_neg h0,Lib.decDigits.eq_1 n,dif_neg (by omega)]
theorem FH {n:Nat} (h:n≤9223372036854775807):(hd n).length≤20:=by
 unfold hd;split
 ·simp
 ·rw [Lib.decDigits_length];exact Zb (by omega) (by decide)
structure OI (n least:Nat) where
 m:Nat
 t:List UInt8
 le:m≤n
 h:VU (least - t.length) (hd m)++t=D0 n least
 tl:t.length+(hd m).length≤least+20
theorem OS {d:Nat} (h:d<10):(([48,49,50,51,52,53,54,55,56,57]:List UInt8).take (d+1)).drop d=[UInt8.ofNat (48+d)]:=by
 match d,h with
 |0,_=>rfl
 |1,_=>rfl
 |2,_=>rfl
 |3,_=>rfl
 |4,_=>rfl
 |5,_=>rfl
 |6,_=>rfl
 |7,_=>rfl
 |8,_=>rfl
 |9,_=>rfl
theorem qH {n:Nat} {least:Nat} {t:List UInt8} (h:0<n∨t.length<least):VU (least - (UInt8.ofNat (48+n%10)::t).length) (hd (n / 10))++(UInt8.ofNat (48+n%10)::t)=VU (least - t.length) (hd n)++t:=by
 rcases Nat.eq_zero_or_pos n with h0 | h0
 ·subst h0
  have hlt:t.length<least:=by omega
  have e:least - t.length=(least - (t.length+1))+1:=by omega
  simp only [hd,VU,List.length_cons,if_true,List.length_nil,Nat.sub_zero,List.append_nil,Nat.zero_div,Nat.zero_mod]
  rw [e,KV,KV,List.replicate_succ',List.append_assoc]
  rfl
 ·rw [IL h0]
  unfold VU
  simp only [List.length_append,List.length_cons,List.length_nil]
  rw [show least - (t.length+1) - (hd (n / 10)).length=least - t.length - ((hd (n / 10)).length+(0+1)) by omega]
  simp
def OI.next {n least:Nat} (i:OI n least) (h:0<i.m∨i.t.length<least):OI n least :=
 ⟨i.m / 10,UInt8.ofNat (48+i.m%10)::i.t,by have:=i.le;omega,by rw [qH h];exact i.h,by
  have:=i.tl
  rcases Nat.eq_zero_or_pos i.m with h0 | h0
  ·have e:hd (i.m / 10)=[]:=by rw [h0];rfl
   rw [e]
   have e2:hd i.m=[]:=by rw [h0];rfl
   rw [e2] at this
   simp at this ⊢;omega
  ·have e:=congrArg List.length (IL h0)
   simp at e ⊢;omega⟩
theorem Ak {w:World} {F:Gs} {n least:Nat} (hF:Fits F w) (hn:n≤9223372036854775807) (hl:least≤1000):QV Tryz.prog 182 [.int .i64 (n:Int),.int .i64 (least:Int)] w F (tx (D0 n least)):=by
 refine QT.intro (G:=fun _=>True) Tryz.func182 rfl (by rfl) rfl rfl hF (fun F' hF'=>trivial)<|QG<|QB<|QA (QE rfl)<|QF<|QC<|QG<|QB<|QA (QE rfl)<|QF<|QC<|QG<|Qa<|XU (ι:=OI n least) (fun i=>[(0,.int .i64 (i.m:Int)),(1,.int .i64 (least:Int)),(5,tx i.t)]) (fun _=>[]) (fun _ _=>True) (fun i=>i.m+(least - i.t.length)) ⟨n,[],Nat.le_refl _,by unfold D0;simp,by have:=FH hn;simp;omega⟩ ⟨rfl,rfl,rfl,trivial⟩ (List.Sublist.refl _) (fun _ h=>trivial) (fun i=>?_)
 have hle:=i.le
 have htl:=i.tl
 refine QG<|QG<|QB<|QA (QD rfl)<|QA (QU rfl rfl rfl)<|QA (QD rfl) ?_
 refine Qk (t:=8) rfl (fun hb8=>?_) (fun hb8=>?_)
 ·
  refine QO rfl rfl rfl<|QO rfl rfl rfl<|QO rfl rfl rfl<|QO rfl rfl rfl<|QA (Qj rfl rfl rfl)<|QF<|QC<|VC rfl<|QP<|QC<|Qa<|QG<|QB<|QA (QD rfl)<|QA (KH rfl rfl (by omega) (by omega))<|QA (QD rfl)<|QA (KH rfl rfl (by omega) (by omega))<|QA (Qu rfl rfl (by omega))<|QA (Bk (i.m%10) (i.m%10+1) rfl rfl rfl J8 (.inr rfl) (.inr rfl) (by omega) (by show i.m%10+1≤10;omega)) ?_
  rw [OS (Nat.mod_lt _ (by decide))]
  refine QA (QD rfl)<|QA (XR rfl rfl (by simp;omega))<|QA (QE rfl)<|QF<|QC<|QB<|QA (QD rfl)<|QA (V8 rfl rfl (by omega) (by omega) (by omega))<|QA (QE rfl)<|QF<|Ql ?_
  exact Qo (OI.next i (Or.inl (by have:=of_decide_eq_true hb8;omega):0<i.m∨i.t.length<least)) (by show i.m / 10+(least - (i.t.length+1))<i.m+(least - i.t.length);rcases (Or.inl (by have:=of_decide_eq_true hb8;omega):0<i.m∨i.t.length<least) with g | g<;>omega) ⟨rfl,rfl,rfl,trivial⟩ (List.Sublist.refl _) (fun _ h=>trivial)
 ·
  refine QL rfl rfl<|QA (QD rfl)<|QL rfl rfl<|QA (Jq rfl J8)<|QL rfl rfl<|QA (QD rfl)<|QL rfl rfl<|QA (QU rfl rfl rfl)<|QA (Qh rfl rfl rfl)<|QF<|QC ?_
  refine QQ rfl (fun hc=>?_) (fun hc=>?_)
  ·
   refine QP<|QC<|Qa<|QG<|QB<|QA (QD rfl)<|QA (KH rfl rfl (by omega) (by omega))<|QA (QD rfl)<|QA (KH rfl rfl (by omega) (by omega))<|QA (Qu rfl rfl (by omega))<|QA (Bk (i.m%10) (i.m%10+1) rfl rfl rfl J8 (.inr rfl) (.inr rfl) (by omega) (by show i.m%10+1≤10;omega)) ?_
   rw [OS (Nat.mod_lt _ (by decide))]
   refine QA (QD rfl)<|QA (XR rfl rfl (by simp;omega))<|QA (QE rfl)<|QF<|QC<|QB<|QA (QD rfl)<|QA (V8 rfl rfl (by omega) (by omega) (by omega))<|QA (QE rfl)<|QF<|Ql ?_
   exact Qo (OI.next i (Or.inr (by have:=of_decide_eq_true hc;omega):0<i.m∨i.t.length<least)) (by show i.m / 10+(least - (i.t.length+1))<i.m+(least - i.t.length);rcases (Or.inr (by have:=of_decide_eq_true hc;omega):0<i.m∨i.t.length<least) with g | g<;>omega) ⟨rfl,rfl,rfl,trivial⟩ (List.Sublist.refl _) (fun _ h=>trivial)
  ·
   refine Q5 ?_
   repeat (first | refine Qc ?_ | refine QX (by rfl) ?_)
   refine Qd<|QC<|QG<|QB<|QA (QD rfl)<|QA (QE rfl)<|QF<|QC<|QR ?_
   exact QN () rfl (.tmp rfl .nil) (congrArg tx (by have h1:=of_decide_eq_false hb8;have h2:=of_decide_eq_false hc;have h0:i.m=0:=(by omega);rw [← i.h,h0];simp [hd,VU,show least - i.t.length=0 by omega,Lib.repeatL])) (fun _ _=>trivial)
end
section
open Go.RowKit Ig
section
variable {P:Program} {N:Nat} {m:Sl} {Y:World→Prop} {ty:TypeId}
theorem Pk (a:Addr):a.add 0=a:=by simp [Addr.add]
theorem O0 {T e:TypeId} {x:Operand} {hi:Option Operand} {vh:Option Value} {q:Option Addr} {n c sz:Nat} {g:Bool} (h:Nat) (hx:ev m x=some (.slice q n c)) (eh:FQ m hi=some vh) (hh:vh=some (.int .i64 (h:Int))) (hT:BH P T=some e) (hs:YR P e=some (g,sz)) (hc:h≤c) :
  Qt P N m Y (.slice T x none hi none) ty (.slice q h c):=fun a w _ _ _ _ ha _=>by
 subst hh
 have e1:q.map (fun a=>a.add 0)=q:=by cases q<;>simp [Pk]
 have hrun:(Instr.slice T (.slice q n c) none (some (.int .i64 (h:Int))) none).run P w = .ok (.slice q h c) w:=by
  simp [Instr.slice,run_underlying (Q8 hT),Instr.sliceBounds,Instr.sliceBound,asIntOf,hc,YS hs,e1]
 simp [execOp,ha.ev hx,ha.FQ eh,Instr.sliceAt,run_underlying (Q8 hT),hrun]
end
def JP (F:Gs) (r:Sr) (l:List Int):Prop:=JB F r.q r.n 1 (l.map Q3)∧l.length=r.n∧r.n≤r.cap
theorem JP.le {F F':Gs} {r:Sr} {l:List Int} (h:JP F r l) (k:Gs.le F F'):JP F' r l:=⟨h.1.le k,h.2⟩
theorem JB.take {F:Gs} {q:Option Addr} {n k:Nat} {l:List Int} (h:JB F q n 1 (l.map Q3)) (hl:l.length=n) (hk:k≤n):JB F q k 1 ((l.take k).map Q3):=by
 refine⟨by simp;omega,fun h0=>?_⟩
 obtain ⟨b,off,arr,T,e1,e2,e3⟩:=h.2 (by omega)
 refine⟨b,off,arr,T,e1,e2,fun j u hu=>e3 j u ?_⟩
 rw [List.map_take] at hu
 have hj:j<k:=by
  rcases Nat.lt_or_ge j k with g | g
  ·exact g
  ·rw [List.getElem?_eq_none (by simp;omega)] at hu;cases hu
 rw [List.getElem?_take_of_lt hj] at hu;exact hu
theorem AV {l:List Int} {k:Nat} (hk:k<l.length) (h:Q6 l=Q6 (l.take (k+1))) (h0:l[k]=0):Q6 l=Q6 (l.take k):=by
 rw [h,List.take_succ_eq_append_getElem hk,h0,YZ]
theorem AU {l:List Int} {k:Nat} (hk:k<l.length) (h:Q6 l=Q6 (l.take (k+1))) (h0:l[k]≠0):Q6 l=l.take (k+1):=by
 rw [h,List.take_succ_eq_append_getElem hk,VM _ h0]
structure zP (l:List Int) where
 k:Nat
 le:k≤l.length
 h:Q6 l=Q6 (l.take k)
theorem WW {w:World} {F:Gs} {r:Sr} {l:List Int} (hF:Fits F w) (hR:JP F r l) (hl:l.length≤1000000000):QT Tryz.prog 250 [r.v] w F (fun(_:Unit)=>.slice r.q (Q6 l).length r.cap) (fun _ F=>JP F ⟨r.q,(Q6 l).length,r.cap⟩ (Q6 l)):=by
 obtain ⟨q,n,c⟩:=r
 have hn:=hR.2.1
 have hcap:=hR.2.2
 dsimp only at hn hcap
 refine QT.intro (G:=fun F=>JP F ⟨q,n,c⟩ l) Tryz.func250 rfl (by rfl) rfl rfl hF (fun F' hF'=>hR.le hF')<|QG<|QB<|QA (QE rfl)<|QF<|QC<|QG<|Qa<|XU (ι:=zP l) (fun i=>[(0,.slice q i.k c)]) (fun _=>[]) (fun _ F=>JP F ⟨q,n,c⟩ l) (fun i=>i.k) ⟨n,by omega,by rw [← hn,List.take_length]⟩ ⟨rfl,trivial⟩ (List.Sublist.refl _) (fun _ h=>h) (fun i=>?_)
 have hle:=i.le
 refine QG<|QG<|QB<|QA (QD rfl)<|QA (Qn rfl Qe)<|QA (QU rfl rfl rfl)<|QA (QD rfl) ?_
 refine Qk (t:=6) rfl (fun hb6=>?_) (fun hb6=>?_)
 ·
  have hk0:0<i.k:=by have:=of_decide_eq_true hb6;omega
  have hk1:i.k - 1<l.length:=by omega
  refine JJ _ (fun w F hF h=>h.1.ptr (by dsimp only;omega)) (fun hq=>?_)
  obtain ⟨qb,qo,hq⟩:=hq
  dsimp only at hq
  subst hq
  refine QL rfl rfl<|QA (QD rfl)<|QL rfl rfl<|QA (QD rfl)<|QL rfl rfl<|QA (Qn rfl Qe)<|QL rfl rfl<|QA (Jx rfl rfl (by omega))<|QL rfl rfl<|QA (Qx (i:=i.k - 1) rfl (congrArg (fun z:Int=>some (Value.int .i64 z)) (by omega)) Qe Qp (by omega))<|QL rfl rfl<|QA (XY (n:=n) (sz:=1) (cs:=l.map Q3) (u:=.int .i64 l[i.k - 1]) rfl Qp (fun F h=>h.1) (by omega) (by simp [hk1,Q3]))<|QL rfl rfl<|QA (QU rfl rfl rfl)<|QA (Qj rfl rfl rfl)<|QF<|QC ?_
  refine QQ rfl (fun hc=>?_) (fun hc=>?_)
  ·
   refine QP<|QC<|Qa<|QB<|QA (QD rfl)<|QA (QD rfl)<|QA (Qn rfl Qe)<|QA (Jx rfl rfl (by omega))<|QA (O0 (i.k - 1) rfl rfl (congrArg (fun z:Int=>some (Value.int .i64 z)) (by omega)) Qe Qp (by omega))<|QA (QE rfl)<|QF<|Ql ?_
   exact Qo (⟨i.k - 1,by omega,AV hk1 (by rw [show i.k - 1+1=i.k by omega];exact i.h) (by simpa using hc)⟩:zP l) (by show i.k - 1<i.k;omega) ⟨rfl,trivial⟩ (List.Sublist.refl _) (fun _ h=>h)
  ·
   refine Q5 ?_
   repeat (first | refine Qc ?_ | refine QX (by rfl) ?_)
   refine Qd<|QC<|QG<|QB<|QA (QD rfl)<|QA (QE rfl)<|QF<|QC<|QR ?_
   exact QN () rfl (.tmp rfl .nil) (congrArg (fun k:Nat=>Value.slice _ k c) (by have e:=AU hk1 (by rw [show i.k - 1+1=i.k by omega];exact i.h) (by simpa using hc);rw [show i.k - 1+1=i.k by omega] at e;rw [e];simp;omega)) (fun F h=>by have hz:(Q6 l).length≤l.length:=Xk l;exact⟨(by have:=h.1.take hn (show(Q6 l).length≤n by omega);rw [← Hq] at this;exact this),rfl,(by show(Q6 l).length≤c;omega)⟩)
 ·
  refine QO rfl rfl rfl<|QO rfl rfl rfl<|QO rfl rfl rfl<|QO rfl rfl rfl<|QO rfl rfl rfl<|QO rfl rfl rfl<|QO rfl rfl rfl<|QA (Qh rfl rfl rfl)<|QF<|QC<|ZE rfl<|Q5 ?_
  repeat (first | refine Qc ?_ | refine QX (by rfl) ?_)
  refine Qd<|QC<|QG<|QB<|QA (QD rfl)<|QA (QE rfl)<|QF<|QC<|QR ?_
  exact QN () rfl (.tmp rfl .nil) (congrArg (fun k:Nat=>Value.slice _ k c) (by have h0:i.k=0:=(by have:=of_decide_eq_false hb6;omega);have e:=i.h;rw [h0] at e;simp [Pr] at e;rw [e,h0];rfl)) (fun F h=>by have hz:(Q6 l).length≤l.length:=Xk l;exact⟨(by have:=h.1.take hn (show(Q6 l).length≤n by omega);rw [← Hq] at this;exact this),rfl,(by show(Q6 l).length≤c;omega)⟩)
end
section
open Go.RowKit Ig
theorem Q7.fix {w0:World} {F0:Gs} {bs1 ob:List (Nat×Obj)} {G:Gs→Prop} {T:TypeId} {sz n:Nat} {v:Value} {cs:List Value} (hr:Q7 T sz v n cs ob) :
  ∃ r:Sr,v=r.v∧r.n=n∧n≤r.cap∧∀ w,St ⟨w0,F0,bs1++ob,G⟩ w→St ⟨w0,F0,bs1,fun F=>G F∧JB F r.q n sz cs⟩ w:=by
 cases hr with
 |nil=>exact⟨⟨Option.none,0,0⟩,rfl,rfl,Nat.le_refl _,fun w hw=>by
   have:=hw.By (G':=fun F=>G F∧JB F Option.none 0 sz []) (fun F h=>⟨h,JB.nil F Option.none sz⟩)
   simpa using this⟩
 |some h1 h2 h3 h4 =>
  rename_i b cap rest
  refine⟨⟨Option.some ⟨b,0,Option.none⟩,n,cap⟩,rfl,rfl,h3,fun w hw=>?_⟩
  have:=St.freeze (pre:=bs1) (post:=[]) (b:=b) hw
  rw [List.append_nil] at this
  refine this.By fun F h=>⟨h.1,h1,fun _=>⟨b,0,_,T,rfl,h.2,fun j u hu=>?_⟩⟩
  have hj:j<cs.length:=by rcases Nat.lt_or_ge j cs.length with g | g;exact g;rw [List.getElem?_eq_none g] at hu;cases hu
  rw [Nat.zero_add]
  simp only [List.getElem?_toArray]
  rw [List.getElem?_append,if_pos hj];exact hu
theorem vK {Q:Exit→Act→World→Prop} {e:Exit} {N:Nat} {m:Sl} {E E':Env} (h:∀ w,St E w→St E' w) (k:Fin Q e N m E'):Fin Q e N m E:=fun a w ha hw=>k a w ha (h w hw)
theorem NH {w:World} {F:Gs} {r:Sr} {l:List Int} {i:Nat} (hF:Fits F w) (hR:JP F r l) (hi:i≤1000000000):QV Tryz.prog 275 [r.v,.int .i64 (i:Int)] w F (.int .i64 (l.getD i 0)):=by
 obtain ⟨q,n,c⟩:=r
 have hn:=hR.2.1
 dsimp only at hn
 refine QT.intro (G:=fun F=>JP F ⟨q,n,c⟩ l) Tryz.func275 rfl (by rfl) rfl rfl hF (fun F' hF'=>hR.le hF') ?_
 dsimp only [Sr.v]
 refine QG<|QB<|QA (QE rfl)<|QF<|QC<|QG<|QG<|QB<|QA (QD rfl)<|QA (QD rfl)<|QA (Qn rfl Qe)<|QA (QU rfl rfl rfl)<|QF<|QC ?_
 refine QQ rfl (fun hc=>?_) (fun hc=>?_)
 ·
  have hk1:i<l.length:=by have:=of_decide_eq_true hc;omega
  refine Xo _ (fun w F hF h=>h.1.ptr (by dsimp only;omega)) (fun hq=>?_)
  obtain ⟨qb,qo,hq⟩:=hq
  dsimp only at hq
  subst hq
  refine QG<|QB<|QA (QD rfl)<|QA (QD rfl)<|QA (Qx (i:=i) rfl rfl Qe Qp (by omega))<|QA (XY (n:=n) (sz:=1) (cs:=l.map Q3) (u:=.int .i64 l[i]) rfl Qp (fun F h=>h.1) (by omega) (by simp [hk1,Q3]))<|QA (QE rfl)<|QF<|QC<|QR ?_
  exact QN () rfl (.tmp rfl .nil) (congrArg (Value.int .i64) (by simp [hk1])) (fun _ _=>trivial)
 ·
  refine QP<|QC<|QG<|QB<|QA (QE rfl)<|QF<|QC<|QR ?_
  exact QN () rfl (.tmp rfl .nil) (congrArg (Value.int .i64) (by have:=of_decide_eq_false hc;simp [show l.length≤i by omega])) (fun _ _=>trivial)
def B9:Int:=1000000000
structure vQ (a b:List Int) where
 i:Nat
 out:List Int
 carry:Int
 v:Value
 ob:List (Nat×Obj)
 le:i≤max a.length b.length+1
 len:out.length=i
 dg:DG B9 out
 c0:0≤carry
 c1:carry≤1
 cz:max a.length b.length<i→carry=0
 h:dv B9 out+B9^i*carry=dv B9 (a.take i)+dv B9 (b.take i)
 hr:Q7 3 1 v out.length (out.map Q3) ob
theorem K5 (B:Int) (l:List Int) (n:Nat):dv B (l.take (n+1))=dv B (l.take n)+B^n*l.getD n 0:=by
 rcases Nat.lt_or_ge n l.length with h | h
 ·rw [Wn B l n h];simp [h]
 ·rw [List.take_of_length_le (by omega),List.take_of_length_le h];simp [h]
end
section
open Go.RowKit Ig
theorem MI {l:List Int} (h:DG B9 l) (i:Nat):0≤l.getD i 0∧l.getD i 0<1000000000:=h.getD (by decide) i
theorem RV {l:List Int} {i:Nat} (h:l.length≤i):l.getD i 0=0:=by simp [h]
theorem ko {a b out:List Int} {i:Nat} {c s:Int} (hl:out.length=i) (h:dv B9 out+B9^i*c=dv B9 (a.take i)+dv B9 (b.take i)) (hs:s=a.getD i 0+b.getD i 0+c) :
  dv B9 (out++[s%B9])+B9^(i+1)*(s / B9)=dv B9 (a.take (i+1))+dv B9 (b.take (i+1)):=by
 rw [XX,hl,K5,K5,Int.pow_succ,Int.mul_assoc]
 have e:s%B9+B9*(s / B9)=s:=Int.emod_add_mul_ediv s B9
 have e2:B9^i*(s%B9)+B9^i*(B9*(s / B9))=B9^i*s:=by rw [← Int.mul_add,e]
 rw [Int.add_assoc,e2,hs,Int.mul_add,Int.mul_add]
 omega
abbrev EC (P:Program) (f:FuncId) (args:List Value) (w:World) (F:Gs) (p:List Int→Prop):Prop:=QT P f args w F (fun(c:Sr×List Int)=>.slice c.1.q c.1.n c.1.cap) (fun c F=>JP F c.1 c.2∧DG B9 c.2∧p c.2)
theorem Bj {w:World} {F:Gs} {ra rb:Sr} {a b:List Int} (hF:Fits F w) (hA:JP F ra a) (hB:JP F rb b) (da:DG B9 a) (db:DG B9 b) (la:a.length≤100000000) (lb:b.length≤100000000) :
  EC Tryz.prog 237 [ra.v,rb.v] w F (fun l=>dv B9 l=dv B9 a+dv B9 b∧l.length≤max a.length b.length+1):=by
 have na:=hA.2.1
 have nb:=hB.2.1
 have h9:B9=1000000000:=rfl
 refine QT.intro (G:=fun F=>JP F ra a∧JP F rb b) Tryz.func237 rfl (by rfl) rfl rfl hF (fun F' hF'=>⟨hA.le hF',hB.le hF'⟩)<|QG<|QB<|QA (QE rfl)<|QF<|QC<|QG<|QB<|QA (QE rfl)<|QF<|QC<|QG<|QB<|QA (QE rfl)<|QF<|QC<|QG<|QG<|QB<|QA (QE rfl)<|QF<|QC<|Qa ?_
 refine XU (ι:=vQ a b) (fun i=>[(0,ra.v),(1,rb.v),(5,i.v),(6,.int .i64 i.carry),(7,.int .i64 (i.i:Int))]) (fun i=>i.ob) (fun _ F=>JP F ra a∧JP F rb b) (fun i=>max a.length b.length+1 - i.i)
  ⟨0,[],0,.slice none 0 0,[],Nat.zero_le _,rfl,DG.nil _,by decide,by decide,fun _=>rfl,by simp,.nil⟩ ⟨rfl,rfl,rfl,rfl,rfl,trivial⟩ (List.nil_sublist _) (fun _ h=>h) (fun i=>?_)
 have hle:=i.le
 have hlen:=i.len
 have hc0:=i.c0
 have hc1:=i.c1
 refine QG ?_
 refine Vi 22 (.bool (decide ((i.i:Int)<ra.n)||decide ((i.i:Int)<rb.n)||decide (i.carry>0))) ?_ ?_
 ·
  refine QB<|QA (QD rfl)<|QA (QD rfl)<|QA (Qn rfl Qe)<|QA (QU rfl rfl rfl)<|QA (QD rfl) ?_
  refine Qk (t:=13) rfl (fun hb13=>?_) (fun hb13=>?_)
  ·
   refine QO rfl rfl rfl<|QO rfl rfl rfl<|QO rfl rfl rfl<|QO rfl rfl rfl<|QA (Qj rfl rfl rfl)<|QA (QD rfl)<|QO rfl rfl rfl<|QO rfl rfl rfl<|QA (Qj rfl rfl rfl)<|QF ?_
   exact Jr (.cons rfl (.cons rfl (.cons rfl (.cons rfl (.cons rfl (.cons rfl (.cons rfl (.cons rfl (.cons rfl (.cons rfl (.cons rfl (.cons rfl (.cons rfl (.cons rfl (.cons rfl .refl))))))))))))))) (congrArg (fun b=>some (Value.bool b)) (by rw [Bool.eq_iff_iff];simp_all;try omega)) (List.Sublist.refl _) (fun _ h=>h)
  ·
   refine QL rfl rfl<|QA (QD rfl)<|QL rfl rfl<|QA (QD rfl)<|QL rfl rfl<|QA (Qn rfl Qe)<|QL rfl rfl<|QA (QU rfl rfl rfl)<|QA (Qh rfl rfl rfl)<|QA (QD rfl) ?_
   refine Qk (t:=19) rfl (fun hb19=>?_) (fun hb19=>?_)
   ·
    refine QO rfl rfl rfl<|QO rfl rfl rfl<|QA (Qj rfl rfl rfl)<|QF ?_
    exact Jr (.cons rfl (.cons rfl (.cons rfl (.cons rfl (.cons rfl (.cons rfl (.cons rfl (.cons rfl (.cons rfl (.cons rfl (.cons rfl (.cons rfl (.cons rfl (.cons rfl (.cons rfl (.cons rfl .refl)))))))))))))))) (congrArg (fun b=>some (Value.bool b)) (by rw [Bool.eq_iff_iff];simp_all;try omega)) (List.Sublist.refl _) (fun _ h=>h)
   ·
    refine QL rfl rfl<|QA (QD rfl)<|QL rfl rfl<|QA (QU rfl rfl rfl)<|QA (Qh rfl rfl rfl)<|QF ?_
    exact Jr (.cons rfl (.cons rfl (.cons rfl (.cons rfl (.cons rfl (.cons rfl (.cons rfl (.cons rfl (.cons rfl (.cons rfl (.cons rfl (.cons rfl (.cons rfl (.cons rfl (.cons rfl (.cons rfl .refl)))))))))))))))) (congrArg (fun b=>some (Value.bool b)) (by rw [Bool.eq_iff_iff];simp_all;try omega)) (List.Sublist.refl _) (fun _ h=>h)
 ·
  refine QQ rfl (fun hc=>?_) (fun hc=>?_)
  ·
   have hi:i.i≤max a.length b.length:=by
    rcases Nat.lt_or_ge (max a.length b.length) i.i with g | g
    ·have:=i.cz g
     simp at hc;omega
    ·exact g
   have b1:=MI da i.i
   have b2:=MI db i.i
   refine QP<|QC<|QG<|Qa<|QG<|QB<|QA (QD rfl)<|QA (QD rfl)<|QH rfl (fun w F hF ⟨hA,hB⟩=>NH (r:=ra) (l:=a) hF hA (by omega)) (fun _=>QA (QD rfl)<|QA (QD rfl)<|QH rfl (fun w F hF ⟨⟨hA,hB⟩,_⟩=>NH (r:=rb) (l:=b) hF hB (by omega)) (fun _=>QA (Qu rfl rfl (by omega))<|QA (QD rfl)<|QA (Qu rfl rfl (by omega))<|QA (QE rfl)<|QF<|QC<|QG<|QB<|QA (QD rfl)<|QA (QD rfl)<|QA (KH rfl rfl (by omega) (by omega))<|QW rfl (Q8 Qe) Qp VE rfl rfl (fun b37=>?_)))
   refine Kv (bs1:=[]) (ob:=i.ob) (k:=1) (sz:=1) (news:=[.int .i64 ((a.getD i.i 0+b.getD i.i 0+i.carry)%1000000000)]) rfl rfl Qe Qp VE rfl DM i.hr (Src.row (off:=0) (fun F h=>h.2) (fun j v hv=>by rw [Nat.zero_add];show([Value.int .i64 ((a.getD i.i 0+b.getD i.i 0+i.carry)%1000000000)].toArray)[j]?=some v;rw [List.getElem?_toArray];exact hv) rfl) (by omega) (by omega) (fun u hu=>by rw [List.mem_singleton.1 hu];rfl) (fun v' ob' hr'=>?_)
   refine QA (QE rfl)<|QF<|QC<|QB<|QA (QD rfl)<|QA (V8 rfl rfl (by omega) (by omega) (by omega))<|QA (QE rfl)<|QF<|Ql<|QC<|QB<|QA (QD rfl)<|QA (Qu rfl rfl (by omega))<|QA (QE rfl)<|QF ?_
   exact Qo (⟨i.i+1,i.out++[(a.getD i.i 0+b.getD i.i 0+i.carry)%B9],(a.getD i.i 0+b.getD i.i 0+i.carry) / B9,v',ob',by omega,by simp [hlen],i.dg.append (DG.cons (by rw [h9];omega) (by rw [h9];omega) (DG.nil _)),by rw [h9];omega,by rw [h9];omega,fun g=>by rw [RV (l:=a) (by omega),RV (l:=b) (by omega),h9];omega,ko hlen i.h rfl,by simpa [Q3,h9] using hr'⟩:vQ a b) (by show max a.length b.length+1 - (i.i+1)<max a.length b.length+1 - i.i;omega) ⟨rfl,rfl,rfl,rfl,rfl,trivial⟩ (List.Sublist.refl _) (fun F h=>h.1.1.1)
  ·
   refine Q5 ?_
   repeat (first | refine Qc ?_ | refine QX (by rfl) ?_)
   refine Qd<|QC<|QG<|QB<|QA (QD rfl)<|QA (QE rfl)<|QF<|QC<|QR ?_
   obtain ⟨r,hv,hrn,hrc,hfix⟩:=Q7.fix (w0:=w) (F0:=F) (bs1:=[]) (G:=fun F=>JP F ra a∧JP F rb b) i.hr
   refine vK hfix ?_
   have hex:max a.length b.length≤i.i∧i.carry=0:=by simp at hc;omega
   exact QN ((r,i.out):Sr×List Int) rfl (.tmp rfl .nil) hv.symm (fun F h=>⟨⟨by rw [hrn];exact h.2,hrn.symm,by show r.n≤r.cap;omega⟩,i.dg,by have e:=i.h;rw [hex.2,List.take_of_length_le (by omega),List.take_of_length_le (by omega)] at e;simpa using e,by show i.out.length≤_;omega⟩)
end
section
open Go.RowKit Ig
structure vO (a b:List Int) where
 k:Nat
 le:k≤a.length
 h:a.drop k=b.drop k
theorem Lo {a b:List Int} {k:Nat} (ha:k<a.length) (hb:k<b.length) (h:a.drop (k+1)=b.drop (k+1)) (e:a[k]=b[k]):a.drop k=b.drop k:=by
 rw [List.drop_eq_getElem_cons ha,List.drop_eq_getElem_cons hb,h,e]
theorem WH {w:World} {F:Gs} {ra rb:Sr} {a b:List Int} (hF:Fits F w) (hA:JP F ra a) (hB:JP F rb b) (da:DG B9 a) (db:DG B9 b) (za:NZ a) (zb:NZ b) (la:a.length≤100000000) (lb:b.length≤100000000) :
  QV Tryz.prog 238 [ra.v,rb.v] w F (.int .i64 (ZS (dv B9 a) (dv B9 b))):=by
 have h91:(1:Int)<B9:=by decide
 have h90:(0:Int)<B9:=by decide
 obtain ⟨q,n,c⟩:=ra
 obtain ⟨q',n',c'⟩:=rb
 have na:=hA.2.1
 have nb:=hB.2.1
 dsimp only at na nb
 refine QT.intro (G:=fun F=>JP F ⟨q,n,c⟩ a∧JP F ⟨q',n',c'⟩ b) Tryz.func238 rfl (by rfl) rfl rfl hF (fun F' hF'=>⟨hA.le hF',hB.le hF'⟩) ?_
 dsimp only [Sr.v]
 refine QG<|QB<|QA (QE rfl)<|QF<|QC<|QG<|QG<|QB<|QA (QD rfl)<|QA (Qn rfl Qe)<|QA (QD rfl)<|QA (Qn rfl Qe)<|QA (QU rfl rfl rfl)<|QF<|QC ?_
 refine QQ rfl (fun hc=>?_) (fun hc=>?_)
 ·
  refine QG<|QG<|QB<|QA (QD rfl)<|QA (Qn rfl Qe)<|QA (QD rfl)<|QA (Qn rfl Qe)<|QA (QU rfl rfl rfl)<|QF<|QC ?_
  refine QQ rfl (fun hc=>?_) (fun hc2=>?_)
  ·
   refine QG<|QB<|QA (QE rfl)<|QF<|QC<|QR ?_
   exact QN () rfl (.tmp rfl .nil) (congrArg (Value.int .i64) (Vz (Xe h91 da db zb (by simp at hc;omega)))) (fun _ _=>trivial)
  ·
   refine QP<|QC<|QG<|QB<|QA (QE rfl)<|QF<|QC<|QR ?_
   exact QN () rfl (.tmp rfl .nil) (congrArg (Value.int .i64) (Gz (Xe h91 db da za (by simp at hc hc2;omega)))) (fun _ _=>trivial)
 ·
  refine QP<|QC<|QG<|QG<|QB<|QA (QD rfl)<|QA (Qn rfl Qe)<|QA (Jx rfl rfl (by omega))<|QA (QE rfl)<|QF<|QC ?_
  have hab:n=n':=by simp at hc;omega
  refine Qa<|XU (ι:=vO a b) (fun i=>[(0,.slice q n c),(1,.slice q' n' c'),(5,.int .i64 ((i.k:Int) - 1))]) (fun _=>[]) (fun _ F=>JP F ⟨q,n,c⟩ a∧JP F ⟨q',n',c'⟩ b) (fun i=>i.k) ⟨n,by omega,by rw [List.drop_eq_nil_of_le (by omega),List.drop_eq_nil_of_le (by omega)]⟩ ⟨rfl,rfl,rfl,trivial⟩ (List.Sublist.refl _) (fun _ h=>h) (fun i=>?_)
  have hle:=i.le
  refine QG<|QG<|QB<|QA (QD rfl)<|QA (QU rfl rfl rfl)<|QF<|QC ?_
  refine QQ rfl (fun hc=>?_) (fun hc=>?_)
  ·
   refine QP<|QC<|QG<|Qa<|QG<|QG ?_
   have hk0:0<i.k:=by have:=of_decide_eq_true hc;omega
   have hka:i.k - 1<a.length:=by omega
   have hkb:i.k - 1<b.length:=by omega
   refine Xo _ (fun w F hF h=>h.1.1.ptr (by dsimp only;omega)) (fun hq=>?_)
   obtain ⟨qb,qo,hq⟩:=hq
   dsimp only at hq
   subst hq
   refine Xo _ (fun w F hF h=>h.2.1.ptr (by dsimp only;omega)) (fun hq=>?_)
   obtain ⟨qb',qo',hq⟩:=hq
   dsimp only at hq
   subst hq
   refine JG (List.Sublist.refl _) mixed (by kernel_rfl)<|QK (QD rfl)<|QK (QD rfl)<|QK (Qx (i:=i.k - 1) rfl (congrArg (fun z:Int=>some (Value.int .i64 z)) (by omega)) Qe Qp (by omega))<|QK (XY (n:=n) (sz:=1) (cs:=a.map Q3) (u:=.int .i64 a[i.k - 1]) rfl Qp (fun F h=>h.1.1) (by omega) (by simp [hka,Q3]))<|QK (QD rfl)<|QK (QD rfl)<|QK (Qx (i:=i.k - 1) rfl (congrArg (fun z:Int=>some (Value.int .i64 z)) (by omega)) Qe Qp (by omega))<|QK (XY (n:=n') (sz:=1) (cs:=b.map Q3) (u:=.int .i64 b[i.k - 1]) rfl Qp (fun F h=>h.2.1) (by omega) (by simp [hkb,Q3]))<|QK (QU rfl rfl rfl)<|Q2<|QC ?_
   refine QQ rfl (fun hc=>?_) (fun hca=>?_)
   ·
    refine QG<|QB<|QA (QE rfl)<|QF<|QC<|QR ?_
    repeat (first | refine JH ?_ | refine JA ?_)
    exact QN () rfl (.tmp rfl .nil) (congrArg (Value.int .i64) (Vz (Sy h90 da db (by omega) (i.k - 1) hka (by rw [show i.k - 1+1=i.k by omega];exact i.h) (of_decide_eq_true hc)))) (fun _ _=>trivial)
   ·
    refine QP<|QC<|QG<|JG (List.Sublist.refl _) mixed (by kernel_rfl)<|QK (QD rfl)<|QK (QD rfl)<|QK (Qx (i:=i.k - 1) rfl (congrArg (fun z:Int=>some (Value.int .i64 z)) (by omega)) Qe Qp (by omega))<|QK (XY (n:=n) (sz:=1) (cs:=a.map Q3) (u:=.int .i64 a[i.k - 1]) rfl Qp (fun F h=>h.1.1) (by omega) (by simp [hka,Q3]))<|QK (QD rfl)<|QK (QD rfl)<|QK (Qx (i:=i.k - 1) rfl (congrArg (fun z:Int=>some (Value.int .i64 z)) (by omega)) Qe Qp (by omega))<|QK (XY (n:=n') (sz:=1) (cs:=b.map Q3) (u:=.int .i64 b[i.k - 1]) rfl Qp (fun F h=>h.2.1) (by omega) (by simp [hkb,Q3]))<|QK (QU rfl rfl rfl)<|Q2<|QC ?_
    refine QQ rfl (fun hc=>?_) (fun hcb=>?_)
    ·
     refine QG<|QB<|QA (QE rfl)<|QF<|QC<|QR ?_
     repeat (first | refine JH ?_ | refine JA ?_)
     exact QN () rfl (.tmp rfl .nil) (congrArg (Value.int .i64) (Gz (Sy h90 db da (by omega) (i.k - 1) hkb (by rw [show i.k - 1+1=i.k by omega];exact i.h.symm) (of_decide_eq_true hc)))) (fun _ _=>trivial)
    ·
     refine QP<|Ql<|QC<|QB<|QA (QD rfl)<|QA (Jx rfl rfl (by omega))<|QA (QE rfl)<|QF ?_
     exact Qo (⟨i.k - 1,by omega,Lo hka hkb (by rw [show i.k - 1+1=i.k by omega];exact i.h) (by simp at hca hcb;omega)⟩:vO a b) (by show i.k - 1<i.k;omega) ⟨rfl,rfl,congrArg (fun z:Int=>some (Value.int .i64 z)) (by dsimp only;omega),trivial⟩ (List.Sublist.refl _) (fun _ h=>h)
  ·
   refine Q5 ?_
   repeat (first | refine Qc ?_ | refine QX (by rfl) ?_)
   refine Qd<|QC<|QG<|QB<|QA (QE rfl)<|QF<|QC<|QR ?_
   exact QN () rfl (.tmp rfl .nil) (congrArg (Value.int .i64) (by have h0:i.k=0:=(by have:=of_decide_eq_false hc;omega);have e:=i.h;rw [h0] at e;simp at e;rw [e];exact MN _)) (fun _ _=>trivial)
end
section
open Go.RowKit Ig
theorem AF {P:Program} {Q:Exit→Act→World→Prop} {c:Code} {N:Nat} {m:Sl} {E E':Env} (h:∀ w,St E w→St E' w) (k:J P c Q N m E'):J P c Q N m E:=fun a w ha hw=>k a w ha (h w hw)
theorem xt {a b out:List Int} {i:Nat} {c c' d:Int} (hl:out.length=i) (h:dv B9 out+dv B9 (b.take i)=dv B9 (a.take i)+B9^i*c) (hd:d=a.getD i 0 - b.getD i 0 - c+B9*c') :
  dv B9 (out++[d])+dv B9 (b.take (i+1))=dv B9 (a.take (i+1))+B9^(i+1)*c':=by
 rw [XX,hl,K5,K5,Int.pow_succ,Int.mul_assoc,hd,Int.mul_add,Int.mul_sub,Int.mul_sub]
 omega
structure yv (a b:List Int) where
 i:Nat
 out:List Int
 borrow:Int
 v:Value
 ob:List (Nat×Obj)
 le:i≤a.length
 len:out.length=i
 dg:DG B9 out
 c0:0≤borrow
 c1:borrow≤1
 h:dv B9 out+dv B9 (b.take i)=dv B9 (a.take i)+B9^i*borrow
 hr:Q7 3 1 v out.length (out.map Q3) ob
theorem qw {a b out:List Int} {c:Int} (da:DG B9 out) (hl:out.length=a.length) (hb:b.length≤a.length) (h:dv B9 out+dv B9 (b.take a.length)=dv B9 (a.take a.length)+B9^a.length*c) (h0:0≤c) (h1:c≤1) (hle:dv B9 b≤dv B9 a):dv B9 out=dv B9 a - dv B9 b:=by
 rw [List.take_length,List.take_of_length_le hb] at h
 have hlt:=Z5 (b:=B9) (by decide) da
 rw [hl] at hlt
 have hc:c=0∨c=1:=by omega
 rcases hc with rfl | rfl
 ·rw [Int.mul_zero] at h;omega
 ·rw [Int.mul_one] at h;omega
theorem Bc {w:World} {F:Gs} {ra rb:Sr} {a b:List Int} (hF:Fits F w) (hA:JP F ra a) (hB:JP F rb b) (da:DG B9 a) (db:DG B9 b) (la:a.length≤100000000) (lb:b.length≤a.length) (hle:dv B9 b≤dv B9 a) :
  EC Tryz.prog 239 [ra.v,rb.v] w F (fun l=>dv B9 l=dv B9 a - dv B9 b∧NZ l∧l.length≤a.length):=by
 obtain ⟨q,n,c⟩:=ra
 have na:=hA.2.1
 have nb:=hB.2.1
 dsimp only at na
 have h9:B9=1000000000:=rfl
 refine QT.intro (G:=fun F=>JP F ⟨q,n,c⟩ a∧JP F rb b) Tryz.func239 rfl (by rfl) rfl rfl hF (fun F' hF'=>⟨hA.le hF',hB.le hF'⟩) ?_
 dsimp only [Sr.v]
 refine QG<|QB<|QA (QE rfl)<|QF<|QC<|QG<|QB<|QA (QE rfl)<|QF<|QC<|QG<|QB<|QA (QE rfl)<|QF<|QC<|QG<|QG<|QB<|QA (QE rfl)<|QF<|QC<|Qa ?_
 refine XU (ι:=yv a b) (fun i=>[(0,.slice q n c),(1,.slice rb.q rb.n rb.cap),(5,i.v),(6,.int .i64 i.borrow),(7,.int .i64 (i.i:Int))]) (fun i=>i.ob) (fun _ F=>JP F ⟨q,n,c⟩ a∧JP F rb b) (fun i=>a.length - i.i)
  ⟨0,[],0,.slice none 0 0,[],Nat.zero_le _,rfl,DG.nil _,by decide,by decide,by simp,.nil⟩ ⟨rfl,rfl,rfl,rfl,rfl,trivial⟩ (List.nil_sublist _) (fun _ h=>h) (fun i=>?_)
 have hile:=i.le
 have hlen:=i.len
 have hc0:=i.c0
 have hc1:=i.c1
 refine QG<|QG<|QB<|QA (QD rfl)<|QA (QD rfl)<|QA (Qn rfl Qe)<|QA (QU rfl rfl rfl)<|QF<|QC ?_
 refine QQ rfl (fun hc=>?_) (fun hc=>?_)
 ·
  have hi:i.i<n:=by have:=of_decide_eq_true hc;omega
  have hia:i.i<a.length:=by omega
  have b1:=MI da i.i
  have b2:=MI db i.i
  have e1:a[i.i]=a.getD i.i 0:=by simp [hia]
  refine Xo _ (fun w F hF h=>h.1.1.ptr (by dsimp only;omega)) (fun hq=>?_)
  obtain ⟨qb,qo,hq⟩:=hq
  dsimp only at hq
  subst hq
  refine QP<|QC<|QG<|Qa<|QG<|JG (List.Sublist.refl _) mixed (by kernel_rfl)<|QK (QD rfl)<|QK (QD rfl)<|QK (Qx (i:=i.i) rfl rfl Qe Qp (by omega))<|QK (XY (n:=n) (sz:=1) (cs:=a.map Q3) (u:=.int .i64 (a.getD i.i 0)) rfl Qp (fun F h=>h.1.1) (by omega) (by simp [hia,Q3]))<|QK (QD rfl)<|QK (QD rfl)<|QY rfl (fun w F hF ⟨hA,hB⟩=>NH (r:=rb) (l:=b) hF hB (by omega)) (fun _=>QK (Jx rfl rfl (by omega))<|QK (QD rfl)<|QK (Jx rfl rfl (by omega))<|QK (QE rfl)<|Q2<|QC<|QG<|QB<|QA (QE rfl)<|QF<|QC<|QG ?_)
  refine QG<|QB<|QA (QD rfl)<|QA (QU rfl rfl rfl)<|QF<|QC ?_
  refine QQ rfl (fun hs=>?_) (fun hs=>?_)
  ·
   refine QG<|QB<|QA (QD rfl)<|QA (Qu rfl rfl (by omega))<|QA (QE rfl)<|QF<|QC<|QB<|QA (QE rfl)<|QF<|QC<|QB<|QA (QD rfl)<|QA (QD rfl)<|QW rfl (Q8 Qe) Qp VE rfl rfl (fun b31=>?_)
   refine Kv (bs1:=[]) (ob:=i.ob) (k:=1) (sz:=1) (news:=[.int .i64 ((a.getD i.i 0 - b.getD i.i 0 - i.borrow)+1000000000)]) rfl rfl Qe Qp VE rfl DM i.hr (Src.row (off:=0) (fun F h=>h.2) (fun j v hv=>by rw [Nat.zero_add];show([Value.int .i64 ((a.getD i.i 0 - b.getD i.i 0 - i.borrow)+1000000000)].toArray)[j]?=some v;rw [List.getElem?_toArray];exact hv) rfl) (by omega) (by omega) (fun u hu=>by rw [List.mem_singleton.1 hu];rfl) (fun v' ob' hr'=>?_)
   refine QA (QE rfl)<|QF<|Ql<|QC<|QB<|QA (QD rfl)<|QA (Qu rfl rfl (by omega))<|QA (QE rfl)<|QF ?_
   exact Qo (⟨i.i+1,i.out++[((a.getD i.i 0 - b.getD i.i 0 - i.borrow)+1000000000)],1,v',ob',by omega,by simp [hlen],i.dg.append (DG.cons (by have:=of_decide_eq_true hs;omega) (by have:=of_decide_eq_true hs;rw [h9];omega) (DG.nil _)),by decide,by decide,xt hlen i.h (by rw [h9];omega),by simpa [Q3] using hr'⟩:yv a b) (by show a.length - (i.i+1)<a.length - i.i;omega) ⟨rfl,rfl,rfl,rfl,rfl,trivial⟩ (List.Sublist.refl _) (fun F h=>h.1.1)
  ·
   refine QP<|QC<|QB<|QA (QD rfl)<|QA (QD rfl)<|QW rfl (Q8 Qe) Qp VE rfl rfl (fun b31=>?_)
   refine Kv (bs1:=[]) (ob:=i.ob) (k:=1) (sz:=1) (news:=[.int .i64 (a.getD i.i 0 - b.getD i.i 0 - i.borrow)]) rfl rfl Qe Qp VE rfl DM i.hr (Src.row (off:=0) (fun F h=>h.2) (fun j v hv=>by rw [Nat.zero_add];show([Value.int .i64 (a.getD i.i 0 - b.getD i.i 0 - i.borrow)].toArray)[j]?=some v;rw [List.getElem?_toArray];exact hv) rfl) (by omega) (by omega) (fun u hu=>by rw [List.mem_singleton.1 hu];rfl) (fun v' ob' hr'=>?_)
   refine QA (QE rfl)<|QF<|Ql<|QC<|QB<|QA (QD rfl)<|QA (Qu rfl rfl (by omega))<|QA (QE rfl)<|QF ?_
   exact Qo (⟨i.i+1,i.out++[(a.getD i.i 0 - b.getD i.i 0 - i.borrow)],0,v',ob',by omega,by simp [hlen],i.dg.append (DG.cons (by have:=of_decide_eq_false hs;omega) (by have:=of_decide_eq_false hs;rw [h9];omega) (DG.nil _)),by decide,by decide,xt hlen i.h (by rw [h9];omega),by simpa [Q3] using hr'⟩:yv a b) (by show a.length - (i.i+1)<a.length - i.i;omega) ⟨rfl,rfl,rfl,rfl,rfl,trivial⟩ (List.Sublist.refl _) (fun F h=>h.1.1)
 ·
  refine Q5 ?_
  repeat (first | refine Qc ?_ | refine QX (by rfl) ?_)
  refine Qd<|QC<|QG ?_
  obtain ⟨r,hv,hrn,hrc,hfix⟩:=Q7.fix (w0:=w) (F0:=F) (bs1:=[]) (G:=fun F=>JP F ⟨q,n,c⟩ a∧JP F rb b) i.hr
  have hex:i.i=a.length:=by have:=of_decide_eq_false hc;omega
  have hlz:=Xk i.out
  refine AF hfix ?_
  rw [hv]
  refine QB<|QA (QD rfl)<|QH rfl (fun w F hF ⟨⟨hA,hB⟩,hX⟩=>WW (r:=r) (l:=i.out) hF ⟨by rw [hrn];exact hX,hrn.symm,by omega⟩ (by omega)) (fun c34=>QA (QE rfl)<|QF<|QC<|QR ?_)
  exact QN ((⟨r.q,(Q6 i.out).length,r.cap⟩,Q6 i.out):Sr×List Int) rfl (.tmp rfl .nil) rfl (fun F h=>⟨h.2,i.dg.Q6,by show dv B9 (Q6 i.out)=_;rw [XA];exact qw i.dg (by omega) lb (by have e:=i.h;rw [hex] at e;exact e) hc0 hc1 hle,Xi _,by show(Q6 i.out).length≤_;omega⟩)
end
section
open Go.RowKit Ig
theorem PM.one {l:List Value} {v:Value}:∀ {n:Nat},l[n]?=some v→PM l n [v]:=by
 induction l with
 |nil=>intro n h;simp at h
 |cons x l ih =>
  intro n h
  cases n with
  |zero=>simp at h;subst h;exact .here .nil
  |succ n=>exact .skip (ih (by simpa using h))
theorem VI.one {l:List Value} {v:Value}:∀ {n:Nat},n<l.length→VI l n [v] (l.set n v):=by
 induction l with
 |nil=>intro n h;simp at h
 |cons x l ih =>
  intro n h
  cases n with
  |zero=>exact .here .nil
  |succ n=>exact .skip (ih (by simpa using h))
def GY (la lb:List Int) (i j:Nat) (x:Int) (o:List Int) (c:Int):Prop :=
 o.length=la.length+lb.length∧DG B9 o∧(∀ p,i+lb.length≤p→Qf o p=0)∧(0≤c∧c<B9) ∧
  dv B9 o+B9^(i+j)*c=dv B9 (la.take i)*dv B9 lb+B9^i*(x*dv B9 (lb.take j))
theorem JE:(0:Int)<B9:=by decide
theorem IE {x y o c:Int} (hx:0≤x∧x<B9) (hy:0≤y∧y<B9) (ho:0≤o∧o<B9) (hc:0≤c∧c<B9):0≤x*y∧x*y≤999999998000000001∧0≤o+x*y+c∧(o+x*y+c) / B9<B9:=by
 have h9:B9=1000000000:=rfl
 have h0:=Int.mul_nonneg hx.1 hy.1
 have h1:x*y≤(B9 - 1)*(B9 - 1):=Int.mul_le_mul (by omega) (by omega) hy.1 (by omega)
 generalize x*y=m at *
 have q:=h9 ▸ hx.2
 generalize hB:B9=B at *
 subst h9
 omega
theorem GY.step {la lb o:List Int} {i j:Nat} {x c s:Int} (h:GY la lb i j x o c) (hx:0≤x∧x<B9) (hb:DG B9 lb) (hj:j<lb.length) (hi:i<la.length) (hs:s=Qf o (i+j)+x*Qf lb j+c) :
  GY la lb i (j+1) x (o.set (i+j) (s%B9)) (s / B9):=by
 obtain ⟨h1,h2,h3,h4,h5⟩:=h
 obtain ⟨m0,m1,m2,m3⟩:=IE hx (hb.Qf JE j) (h2.Qf JE (i+j)) h4
 rw [← hs] at m2 m3
 refine⟨by simpa using h1,h2.set _ (Int.emod_nonneg _ (by decide)) (Int.emod_lt_of_pos _ JE),?_,⟨Int.ediv_nonneg m2 (by decide),m3⟩,?_⟩
 ·intro p hp
  rw [Vy (by omega),if_neg (by omega)];exact h3 p hp
 ·rw [GR B9 (by omega),VZ,← Nat.add_assoc,Int.pow_succ]
  have e0:s%B9+B9*(s / B9)=s:=Int.emod_add_mul_ediv s B9
  generalize s%B9=lo at *
  generalize s / B9=hi at *
  have e:B9^(i+j)*(lo+B9*hi)=B9^(i+j)*(Qf o (i+j)+x*Qf lb j+c):=by rw [e0,hs]
  rw [Int.pow_add] at *
  generalize B9^i=u at *
  generalize B9^j=v at *
  generalize B9=B at *
  grind
theorem GY.row {la lb o:List Int} {i:Nat} {x c:Int} (h:GY la lb i lb.length x o c) (hi:i<la.length) (hx:x=Qf la i) :
  GY la lb (i+1) 0 0 (o.set (i+lb.length) c) 0:=by
 obtain ⟨h1,h2,h3,h4,h5⟩:=h
 refine⟨by simpa using h1,h2.set _ h4.1 h4.2,?_,⟨Int.le_refl _,JE⟩,?_⟩
 ·intro p hp
  rw [Vy (by omega),if_neg (by omega)];exact h3 p (by omega)
 ·rw [GR B9 (by omega),h3 _ (Nat.le_refl _),VZ,← hx]
  rw [List.take_length] at h5
  simp only [Int.mul_zero,Int.add_zero,Int.zero_mul,Int.sub_zero]
  rw [h5]
  generalize B9^i=u at *
  generalize B9=B at *
  grind
theorem GY.start (la lb:List Int):GY la lb 0 0 0 (List.replicate (la.length+lb.length) 0) 0:=by
 refine⟨by simp,DG.replicate JE _,?_,⟨Int.le_refl _,JE⟩,by rw [N0];simp⟩
 intro p _;unfold Qf;split<;>simp
theorem GY.next {la lb o:List Int} {i:Nat} (h:GY la lb i 0 0 o 0) (x:Int):GY la lb i 0 x o 0:=by
 obtain ⟨h1,h2,h3,h4,h5⟩:=h
 exact⟨h1,h2,h3,h4,by simpa using h5⟩
theorem GY.stop {la lb o:List Int} {i:Nat} (h:GY la lb i 0 0 o 0) (hi:la.length≤i):dv B9 o=dv B9 la*dv B9 lb:=by
 have e:=h.2.2.2.2
 rw [List.take_of_length_le hi] at e
 simpa using e
end
section
open Go.RowKit Ig
theorem D2 {o:List Int} {k:Nat} (h:k<o.length):(o.map Q3)[0+k*1]?=some (.int .i64 (Qf o k)):=by
 rw [ZO h];simp [h,Q3]
theorem JL {o:List Int} {k:Nat} (h:k<o.length):(o.map Q3)[k*1]?=some (.int .i64 (Qf o k)):=by
 rw [ZO h];simp [h,Q3]
theorem Gq {o:List Int} {k:Nat} (h:k<o.length) (x:Int):VI (o.map Q3) (0+k*1) [.int .i64 x] ((o.set k x).map Q3):=by
 have:=VI.one (l:=o.map Q3) (n:=0+k*1) (v:=.int .i64 x) (by simpa using h)
 simpa [List.map_set,Q3] using this
structure k7 (a b:List Int) where
 i:Nat
 o:List Int
 le:i≤a.length
 h:GY a b i 0 0 o 0
structure k6 (a b:List Int) (i:Nat) where
 j:Nat
 o:List Int
 c:Int
 le:j≤b.length
 h:GY a b i j (Qf a i) o c
theorem WY {w:World} {F:Gs} {ra rb:Sr} {a b:List Int} (hF:Fits F w) (hA:JP F ra a) (hB:JP F rb b) (da:DG B9 a) (db:DG B9 b) (la:a.length≤100000000) (lb:b.length≤100000000) :
  EC Tryz.prog 240 [ra.v,rb.v] w F (fun l=>dv B9 l=dv B9 a*dv B9 b∧NZ l∧l.length≤a.length+b.length):=by
 obtain ⟨q,n,c⟩:=ra
 obtain ⟨q',n',c'⟩:=rb
 have na:=hA.2.1
 have nb:=hB.2.1
 dsimp only at na nb
 have h9:B9=1000000000:=rfl
 refine QT.intro (G:=fun F=>JP F ⟨q,n,c⟩ a∧JP F ⟨q',n',c'⟩ b) Tryz.func240 rfl (by rfl) rfl rfl hF (fun F' hF'=>⟨hA.le hF',hB.le hF'⟩) ?_
 dsimp only [Sr.v]
 refine QG<|QB<|QA (QE rfl)<|QF<|QC<|QG<|QB<|QA (QD rfl)<|QA (Qn rfl Qe)<|QA (QD rfl)<|QA (Qn rfl Qe)<|QA (Qu rfl rfl (by omega))<|TA (n:=n+n') (bytes:=8) rfl rfl Qe Qp VE rfl DM (by omega) (by omega) (fun bk=>?_)
 rw [show ZY [Value.int .i64 0] (n+n')=(List.replicate (a.length+b.length) (0:Int)).map Q3 by rw [VL,na,nb];simp [Q3]]
 refine QA (QE rfl)<|QF<|QC<|QG<|QG<|QB<|QA (QE rfl)<|QF<|QC<|Qa ?_
 refine XU (ι:=k7 a b) (fun i=>[(0,.slice q n c),(1,.slice q' n' c'),(5,.slice (some ⟨bk,0,none⟩) (n+n') (n+n')),(6,.int .i64 (i.i:Int))]) (fun i=>[(bk,.cells (i.o.map Q3).toArray 3 (0,0))]) (fun _ F=>JP F ⟨q,n,c⟩ a∧JP F ⟨q',n',c'⟩ b) (fun i=>a.length - i.i)
  ⟨0,_,Nat.zero_le _,GY.start a b⟩ ⟨rfl,rfl,rfl,rfl,trivial⟩ (List.Sublist.refl _) (fun _ h=>h) (fun i=>?_)
 have hile:=i.le
 refine QG<|QG<|QB<|QA (QD rfl)<|QA (QD rfl)<|QA (Qn rfl Qe)<|QA (QU rfl rfl rfl)<|QF<|QC ?_
 refine QQ rfl (fun hc=>?_) (fun hc=>?_)
 ·
  have hi:i.i<n:=by have:=of_decide_eq_true hc;omega
  have hia:i.i<a.length:=by omega
  refine Xo _ (fun w F hF h=>h.1.1.ptr (by dsimp only;omega)) (fun hq=>?_)
  obtain ⟨qb,qo,hq⟩:=hq
  dsimp only at hq
  subst hq
  refine QP<|QC<|QG<|Qa<|QG<|QB<|QA (QE rfl)<|QF<|QC<|QG<|QG<|QB<|QA (QE rfl)<|QF<|QC<|Qa ?_
  refine XU (ι:=k6 a b i.i) (fun i2=>[(0,.slice (some ⟨qb,qo,none⟩) n c),(1,.slice q' n' c'),(5,.slice (some ⟨bk,0,none⟩) (n+n') (n+n')),(6,.int .i64 (i.i:Int)),(7,.int .i64 i2.c),(8,.int .i64 (i2.j:Int))]) (fun i2=>[(bk,.cells (i2.o.map Q3).toArray 3 (0,0))]) (fun _ F=>JP F ⟨some ⟨qb,qo,none⟩,n,c⟩ a∧JP F ⟨q',n',c'⟩ b) (fun i2=>b.length - i2.j)
   ⟨0,i.o,0,Nat.zero_le _,i.h.next _⟩ ⟨rfl,rfl,rfl,rfl,rfl,rfl,trivial⟩ (List.Sublist.refl _) (fun _ h=>h) (fun i2=>?_)
  have hjle:=i2.le
  have hol:i2.o.length=a.length+b.length:=i2.h.1
  have hcc:=i2.h.2.2.2.1
  refine QG<|QG<|QB<|QA (QD rfl)<|QA (QD rfl)<|QA (Qn rfl Qe)<|QA (QU rfl rfl rfl)<|QF<|QC ?_
  refine QQ rfl (fun hc=>?_) (fun hc=>?_)
  ·
   have hj:i2.j<n':=by have:=of_decide_eq_true hc;omega
   have hjb:i2.j<b.length:=by omega
   have hko:i.i+i2.j<i2.o.length:=by omega
   have bx:=da.Qf JE i.i
   have by':=db.Qf JE i2.j
   have bo:=i2.h.2.1.Qf JE (i.i+i2.j)
   have bd:=IE bx by' bo hcc
   have hst:=i2.h.step bx db hjb hia rfl
   refine Xo _ (fun w F hF h=>h.2.1.ptr (by dsimp only;omega)) (fun hq=>?_)
   obtain ⟨qb',qo',hq⟩:=hq
   dsimp only at hq
   subst hq
   refine QP<|QC<|QG<|Qa<|QG<|JG (List.Sublist.refl _) mixed (by kernel_rfl)<|QK (QD rfl)<|QK (QD rfl)<|QK (QD rfl)<|QK (Qu rfl rfl (by omega))<|QK (Qx (i:=i.i+i2.j) rfl rfl Qe Qp (by omega))<|QK (Ya (c:=i2.o.map Q3) (T':=3) rfl Qp .here (D2 hko))<|QK (QD rfl)<|QK (QD rfl)<|QK (Qx (i:=i.i) rfl rfl Qe Qp (by omega))<|QK (XY (n:=n) (sz:=1) (cs:=a.map Q3) rfl Qp (fun F h=>h.1.1) (by omega) (JL hia))<|QK (QD rfl)<|QK (QD rfl)<|QK (Qx (i:=i2.j) rfl rfl Qe Qp (by omega))<|QK (XY (n:=n') (sz:=1) (cs:=b.map Q3) rfl Qp (fun F h=>h.2.1) (by omega) (JL hjb))<|QK (WI rfl rfl (by omega))<|QK (Qu rfl rfl (by omega))<|QK (QD rfl)<|QK (Qu rfl rfl (by omega))<|QK (QE rfl) ?_
   refine Q2<|QC<|QG<|QB<|QA (QD rfl)<|QA (QD rfl)<|QA (QD rfl)<|QA (Qu rfl rfl (by omega))<|QA (QD rfl)<|QA (KH rfl rfl (by omega) (by omega))<|QA (Qx (i:=i.i+i2.j) rfl rfl Qe Qp (by omega))<|QS (vs:=[_]) rfl rfl rfl Qp rfl .here (Gq hko _) ⟨rfl,trivial⟩<|QF<|QC<|QB<|QA (QD rfl)<|QA (V8 rfl rfl (by omega) (by omega) (by omega))<|QA (QE rfl)<|QF<|Ql<|QC<|QB<|QA (QD rfl)<|QA (Qu rfl rfl (by omega))<|QA (QE rfl) ?_
   refine QF ?_
   exact Qo (⟨i2.j+1,i2.o.set (i.i+i2.j) _,_,by omega,hst⟩:k6 a b i.i) (by show b.length - (i2.j+1)<b.length - i2.j;omega) ⟨rfl,rfl,rfl,rfl,rfl,rfl,trivial⟩ (List.Sublist.refl _) (fun _ h=>h)
  ·
   have hjn:i2.j=b.length:=by have:=of_decide_eq_false hc;omega
   have hko2:i.i+n'<i2.o.length:=by omega
   have hrow:GY a b (i.i+1) 0 0 (i2.o.set (i.i+n') i2.c) 0:=by
    have e:=i2.h
    rw [hjn] at e
    have:=e.row hia rfl
    rwa [nb] at this
   have hz:Qf i2.o (i.i+n')=0:=i2.h.2.2.1 _ (by omega)
   refine Q5 ?_
   repeat (first | refine Qc ?_ | refine QX (by rfl) ?_)
   refine Qd<|QC<|QB<|QA (QD rfl)<|QA (QD rfl)<|QA (QD rfl)<|QA (Qn rfl Qe)<|QA (Qu rfl rfl (by omega))<|QA (QD rfl)<|QA (QD rfl)<|QA (QD rfl)<|QA (Qn rfl Qe)<|QA (Qu rfl rfl (by omega))<|QA (Qx (i:=i.i+n') rfl rfl Qe Qp (by omega))<|QA (Ya (c:=i2.o.map Q3) (T':=3) rfl Qp .here (D2 hko2))<|QA (QD rfl)<|QA (Qu rfl rfl (by omega))<|QA (Qx (i:=i.i+n') rfl rfl Qe Qp (by omega))<|QS (vs:=[_]) rfl rfl rfl Qp rfl .here (Gq hko2 _) ⟨rfl,trivial⟩<|QF<|Ql<|QC<|QB<|QA (QD rfl)<|QA (Qu rfl rfl (by omega)) ?_
   refine QA (QE rfl)<|QF ?_
   exact Qo (⟨i.i+1,i2.o.set (i.i+n') i2.c,by omega,hrow⟩:k7 a b) (by show a.length - (i.i+1)<a.length - i.i;omega) ⟨rfl,rfl,rfl,rfl,trivial⟩ (by rw [hz,Int.zero_add];exact List.Sublist.refl _) (fun _ h=>h)
 ·
  refine Q5 ?_
  repeat (first | refine Qc ?_ | refine QX (by rfl) ?_)
  refine Qd<|QC<|QG ?_
  have hex:a.length≤i.i:=by have:=of_decide_eq_false hc;omega
  have hol:i.o.length=a.length+b.length:=i.h.1
  have hr:Q7 3 1 (.slice (some ⟨bk,0,none⟩) (n+n') (n+n')) (n+n') (i.o.map Q3) [(bk,.cells (i.o.map Q3).toArray 3 (0,0))]:=by
   have:=Q7.some (T:=3) (sz:=1) (b:=bk) (n:=n+n') (cap:=n+n') (l:=i.o.map Q3) (rest:=[]) (by simp;omega) (by simp;omega) (Nat.le_refl _) (Nat.le_trans (show n+n'≤200000000 by omega) (by decide))
   simpa using this
  obtain ⟨r,hv,hrn,hrc,hfix⟩:=Q7.fix (w0:=w) (F0:=F) (bs1:=[]) (G:=fun F=>JP F ⟨q,n,c⟩ a∧JP F ⟨q',n',c'⟩ b) hr
  have hlz:=Xk i.o
  refine AF hfix ?_
  rw [hv]
  refine QB<|QA (QD rfl)<|QH rfl (fun w F hF ⟨⟨hA,hB⟩,hX⟩=>WW (r:=r) (l:=i.o) hF ⟨by rw [hrn];exact hX,by rw [hrn];omega,by omega⟩ (by omega)) (fun c71=>QA (QE rfl)<|QF<|QC<|QR ?_)
  exact QN ((⟨r.q,(Q6 i.o).length,r.cap⟩,Q6 i.o):Sr×List Int) rfl (.tmp rfl .nil) rfl (fun F h=>⟨h.2,i.h.2.1.Q6,by show dv B9 (Q6 i.o)=_;rw [XA];exact i.h.stop hex,Xi _,by show(Q6 i.o).length≤_;omega⟩)
end
section
open Go.RowKit Ig
structure vM (a:List Int) (d:Int) where
 k:Nat
 o:List Int
 r:Int
 le:k≤a.length
 len:o.length=a.length
 dg:DG B9 o
 r0:0≤r
 r1:r<d
 h:dv B9 (a.drop k)=d*dv B9 (o.drop k)+r
theorem set_drop {o:List Int} {p:Nat} (h:p<o.length) (v:Int):(o.set p v).drop p=v::o.drop (p+1):=by
 rw [List.drop_eq_getElem_cons (by simpa using h)]
 congr 1
 ·simp
 ·rw [List.drop_set_of_lt (by omega)]
theorem xG {r d x:Int} (r0:0≤r) (r1:r<d) (hd:d<B9) (hx:0≤x∧x<B9):0≤r*B9+x∧0≤(r*B9+x) / d∧(r*B9+x) / d<B9∧0≤(r*B9+x)%d∧(r*B9+x)%d<d:=by
 have h0:0≤r*B9:=Int.mul_nonneg r0 (by decide)
 refine⟨by omega,Int.ediv_nonneg (by omega) (by omega),Int.ediv_lt_of_lt_mul (by omega) ?_,Int.emod_nonneg _ (by omega),Int.emod_lt_of_pos _ (by omega)⟩
 have h1:(r+1)*B9≤d*B9:=Int.mul_le_mul_of_nonneg_right (by omega) (by decide)
 rw [Int.add_mul,Int.one_mul] at h1
 rw [Int.mul_comm B9 d]
 omega
theorem yb {a o:List Int} {d r s:Int} {p:Nat} (hp:p<a.length) (ho:p<o.length) (h:dv B9 (a.drop (p+1))=d*dv B9 (o.drop (p+1))+r) (hs:s=r*B9+Qf a p) :
  dv B9 (a.drop p)=d*dv B9 ((o.set p (s / d)).drop p)+s%d:=by
 rw [set_drop ho,List.drop_eq_getElem_cons hp,← ZO hp]
 simp only [dv]
 rw [h]
 have e:s%d+d*(s / d)=s:=Int.emod_add_mul_ediv s d
 generalize s / d=u at *
 generalize s%d=v at *
 generalize B9=B at *
 grind
end
section
open Go.RowKit Ig
theorem EO {w:World} {F:Gs} {ra:Sr} {a:List Int} {d:Int} (hF:Fits F w) (hA:JP F ra a) (da:DG B9 a) (la:a.length≤100000000) (d0:0<d) (d1:d<B9) :
  QT Tryz.prog 249 [ra.v,.int .i64 d] w F (fun(c:(Sr×List Int)×Int)=>.tuple [.slice c.1.1.q c.1.1.n c.1.1.cap,.int .i64 c.2].toArray) (fun c F=>JP F c.1.1 c.1.2∧DG B9 c.1.2∧NZ c.1.2∧0≤c.2∧c.2<d∧dv B9 a=d*dv B9 c.1.2+c.2∧c.1.2.length≤a.length):=by
 obtain ⟨q,n,c⟩:=ra
 have na:=hA.2.1
 dsimp only at na
 have h9:B9=1000000000:=rfl
 refine QT.intro (G:=fun F=>JP F ⟨q,n,c⟩ a) Tryz.func249 rfl (by rfl) rfl rfl hF (fun F' hF'=>hA.le hF') ?_
 dsimp only [Sr.v]
 refine QG<|QB<|QA (QE rfl)<|QA (QE rfl)<|QF<|QC<|QG<|QB<|QA (QD rfl)<|QA (Qn rfl Qe)<|TA (n:=n) (bytes:=8) rfl rfl Qe Qp VE rfl DM (by omega) (by omega) (fun bk=>?_)
 rw [show ZY [Value.int .i64 0] n=(List.replicate a.length (0:Int)).map Q3 by rw [VL,na];simp [Q3]]
 refine QA (QE rfl)<|QF<|QC<|QG<|QB<|QA (QE rfl)<|QF<|QC<|QG<|QG<|QB<|QA (QD rfl)<|QA (Qn rfl Qe)<|QA (Jx rfl rfl (by omega))<|QA (QE rfl)<|QF<|QC<|Qa ?_
 refine XU (ι:=vM a d) (fun i=>[(0,.slice q n c),(1,.int .i64 d),(6,.slice (some ⟨bk,0,none⟩) n n),(7,.int .i64 i.r),(8,.int .i64 ((i.k:Int) - 1))]) (fun i=>[(bk,.cells (i.o.map Q3).toArray 3 (0,0))]) (fun _ F=>JP F ⟨q,n,c⟩ a) (fun i=>i.k)
  ⟨n,List.replicate a.length 0,0,by omega,by simp,DG.replicate JE _,Int.le_refl _,d0,by rw [List.drop_eq_nil_of_le (by omega),List.drop_eq_nil_of_le (by simp;omega)];simp [dv]⟩ ⟨rfl,rfl,rfl,rfl,rfl,trivial⟩ (List.Sublist.refl _) (fun _ h=>h) (fun i=>?_)
 have hile:=i.le
 have hol:=i.len
 have hr0:=i.r0
 have hr1:=i.r1
 refine QG<|QG<|QB<|QA (QD rfl)<|QA (QU rfl rfl rfl)<|QF<|QC ?_
 refine QQ rfl (fun hc=>?_) (fun hc=>?_)
 ·
  have hk0:0<i.k:=by have:=of_decide_eq_true hc;omega
  have hka:i.k - 1<a.length:=by omega
  have hko:i.k - 1<i.o.length:=by omega
  have bx:=da.Qf JE (i.k - 1)
  have bd:=xG hr0 hr1 d1 bx
  rw [h9] at bd
  have hst:=yb (d:=d) (r:=i.r) (s:=i.r*1000000000+Qf a (i.k - 1)) hka hko (by rw [show i.k - 1+1=i.k by omega];exact i.h) rfl
  refine Xo _ (fun w F hF h=>h.1.ptr (by dsimp only;omega)) (fun hq=>?_)
  obtain ⟨qb,qo,hq⟩:=hq
  dsimp only at hq
  subst hq
  refine QP<|QC<|QG<|Qa<|QG<|QB<|QA (QD rfl)<|QA (WI rfl rfl (by omega))<|QA (QD rfl)<|QA (QD rfl)<|QA (Qx (i:=i.k - 1) rfl (congrArg (fun z:Int=>some (Value.int .i64 z)) (by omega)) Qe Qp (by omega))<|QA (XY (n:=n) (sz:=1) (cs:=a.map Q3) rfl Qp (fun F h=>h.1) (by omega) (JL hka))<|QA (Qu rfl rfl (by omega))<|QA (QE rfl)<|QF<|QC<|QG<|QB<|QA (QD rfl)<|QA (QD rfl)<|QA (QD rfl)<|QA (QD rfl)<|QA (V8 rfl rfl (by omega) (by omega) (by omega))<|QA (Qx (i:=i.k - 1) rfl (congrArg (fun z:Int=>some (Value.int .i64 z)) (by omega)) Qe Qp (by omega))<|QS (vs:=[_]) rfl rfl rfl Qp rfl .here (Gq hko _) ⟨rfl,trivial⟩ ?_
  refine QF<|QC<|QB<|QA (QD rfl)<|QA (QD rfl)<|QA (KH rfl rfl (by omega) (by omega))<|QA (QE rfl)<|QF<|Ql<|QC<|QB<|QA (QD rfl)<|QA (Jx rfl rfl (by omega))<|QA (QE rfl)<|QF ?_
  exact Qo (⟨i.k - 1,i.o.set (i.k - 1) ((i.r*1000000000+Qf a (i.k - 1)) / d),(i.r*1000000000+Qf a (i.k - 1))%d,by omega,by simpa using hol,i.dg.set _ bd.2.1 bd.2.2.1,bd.2.2.2.1,bd.2.2.2.2,hst⟩:vM a d) (by show i.k - 1<i.k;omega) ⟨rfl,rfl,rfl,rfl,congrArg (fun z:Int=>some (Value.int .i64 z)) (by dsimp only;omega),trivial⟩ (List.Sublist.refl _) (fun _ h=>h)
 ·
  refine Q5 ?_
  repeat (first | refine Qc ?_ | refine QX (by rfl) ?_)
  refine Qd<|QC<|QG ?_
  have hex:i.k=0:=by have:=of_decide_eq_false hc;omega
  have hr:Q7 3 1 (.slice (some ⟨bk,0,none⟩) n n) n (i.o.map Q3) [(bk,.cells (i.o.map Q3).toArray 3 (0,0))]:=by
   have:=Q7.some (T:=3) (sz:=1) (b:=bk) (n:=n) (cap:=n) (l:=i.o.map Q3) (rest:=[]) (by simp;omega) (by simp;omega) (Nat.le_refl _) (Nat.le_trans (show n≤200000000 by omega) (by decide))
   simpa using this
  obtain ⟨r,hv,hrn,hrc,hfix⟩:=Q7.fix (w0:=w) (F0:=F) (bs1:=[]) (G:=fun F=>JP F ⟨q,n,c⟩ a) hr
  have hlz:=Xk i.o
  have hfin:=i.h
  rw [hex,List.drop_zero,List.drop_zero] at hfin
  refine AF hfix ?_
  rw [hv]
  refine QB<|QA (QD rfl)<|QH rfl (fun w F hF ⟨hA,hX⟩=>WW (r:=r) (l:=i.o) hF ⟨by rw [hrn];exact hX,by rw [hrn];omega,by omega⟩ (by omega)) (fun c37=>QA (QD rfl)<|QA (QE rfl)<|QA (QE rfl)<|QF<|QC<|QR ?_)
  exact Jb (((⟨r.q,(Q6 i.o).length,r.cap⟩,Q6 i.o),i.r):(Sr×List Int)×Int) rfl (.tmp rfl (.tmp rfl .nil)) rfl (fun F h=>⟨h.2,i.dg.Q6,Xi _,hr0,hr1,by show _=d*dv B9 (Q6 i.o)+i.r;rw [XA];exact hfin,by show(Q6 i.o).length≤_;omega⟩)
end
section
open Go.RowKit Ig
theorem yW {u v:List Int} {n:Nat} {t r:Int} (h:Vh B9 u v n) (t0:0≤t) (e:t*Qf v (n+1)+r=Qf u (n+2)*B9+Qf u (n+1)) (hc:r*B9+Qf u n<t*Qf v n):dv B9 u<t*dv B9 v:=by
 obtain ⟨a1,a2,a3⟩:=Z3 (b:=B9) (by decide) h.hu h.lu
 obtain ⟨b1,b2,b3⟩:=KK (b:=B9) (by decide) h.hv h.lv
 rw [a1,b1]
 refine Nj b2 a3 (pow_pos JE n) t0 ?_
 rw [← e]
 generalize B9=B at *
 grind
theorem ka {u v:List Int} {n:Nat} {t:Int} (h:Vh B9 u v n) (ht:B9≤t):dv B9 u<t*dv B9 v:=by
 have h0:=Qw (b:=B9) (by decide) h.hv
 have h1:B9*dv B9 v≤t*dv B9 v:=Int.mul_le_mul_of_nonneg_right ht h0
 have:=h.lt
 omega
theorem j8 {u v:List Int} {n:Nat} {t:Int} (h:Vh B9 u v n) (t0:0≤t) (ht:Qf u (n+2)*B9+Qf u (n+1)<(t+1)*Qf v (n+1)):dv B9 u<(t+1)*dv B9 v:=by
 obtain ⟨a1,a2,a3⟩:=Z3 (b:=B9) (by decide) h.hu h.lu
 obtain ⟨b1,b2,b3⟩:=KK (b:=B9) (by decide) h.hv h.lv
 rw [a1,b1]
 refine Nj b2 a3 (pow_pos JE n) (by omega) ?_
 have d1:=h.hu.Qf JE n
 have d2:=h.hv.Qf JE n
 have e1:0≤(t+1)*Qf v n:=Int.mul_nonneg (by omega) d2.1
 have e2:(Qf u (n+2)*B9+Qf u (n+1)+1)*B9≤(t+1)*Qf v (n+1)*B9:=Int.mul_le_mul_of_nonneg_right (by omega) (by decide)
 generalize B9=B at *
 generalize Qf u (n+2)=u0 at *
 generalize Qf u (n+1)=u1 at *
 generalize Qf u n=u2 at *
 generalize Qf v (n+1)=v1 at *
 generalize Qf v n=v2 at *
 grind
theorem zK {u v:List Int} {n:Nat} {t r:Int} (h:Vh B9 u v n) (t0:0≤t) (t1:t<B9) (e:t*Qf v (n+1)+r=Qf u (n+2)*B9+Qf u (n+1)) (hc:t*Qf v n≤r*B9+Qf u n):(t - 1)*dv B9 v≤dv B9 u:=by
 obtain ⟨a1,a2,a3⟩:=Z3 (b:=B9) (by decide) h.hu h.lu
 obtain ⟨b1,b2,b3⟩:=KK (b:=B9) (by decide) h.hv h.lv
 rw [a1,b1]
 have d2:=h.hv.Qf JE n
 have d3:1*B9≤Qf v (n+1)*B9:=Int.mul_le_mul_of_nonneg_right (by have:=h.nz;omega) (by decide)
 refine UY (pow_pos JE n) b3 a2 t0 ?_ (by omega) b2
 rw [← e]
 generalize B9=B at *
 grind
end
section
open Go.RowKit Ig
theorem Zo {o:List Int} {rest:List Value} {k:Nat} (h:k<o.length):(o.map Q3++rest)[0+k*1]?=some (.int .i64 (Qf o k)):=by
 rw [List.getElem?_append,if_pos (by simp;omega)];exact D2 h
theorem jI {l vs l' rest:List Value} {n:Nat} (h:VI l n vs l'):VI (l++rest) n vs (l'++rest):=by
 induction h with
 |nil=>exact .nil
 |here h ih=>exact .here ih
 |skip h ih=>exact .skip ih
theorem VT {o:List Int} {rest:List Value} {k:Nat} (h:k<o.length) (x:Int):VI (o.map Q3++rest) (0+k*1) [.int .i64 x] ((o.set k x).map Q3++rest):=jI (Gq h x)
def Ii (u v:List Int) (t:Int):Prop:=0≤t∧t<B9∧(t - 1)*dv B9 v≤dv B9 u∧dv B9 u<(t+1)*dv B9 v
structure gZ (u v:List Int) (m:Nat) where
 t:Int
 r:Int
 t0:0≤t
 r0:0≤r
 r1:r<B9
 t2:t≤1000000000000000000
 e:t*Qf v (m+1)+r=Qf u (m+2)*B9+Qf u (m+1)
 h:dv B9 u<(t+1)*dv B9 v
theorem N2 {U:List Int} {j m k:Nat} (h:k<m):Qf ((U.drop j).take m) k=Qf U (j+k):=by
 by_cases g:j+k<U.length
 ·rw [ZO (by simp;omega),ZO g];simp
 ·rw [BC (by simp;omega),BC (by omega)]
theorem IP {u v:List Int} {n:Nat} {t r:Int} (h:Vh B9 u v n) (t0:0≤t) (e:t*Qf v (n+1)+r=Qf u (n+2)*B9+Qf u (n+1)) (hr:B9≤r) (hu:dv B9 u<(t+1)*dv B9 v):Ii u v t:=by
 have ht:=h.top (by decide)
 have d0:=h.hu.Qf JE n
 have d1:=h.hu.Qf JE (n+1)
 have d2:=h.hv.Qf JE n
 have hn:=h.nz
 have e1:Qf u (n+2)*B9≤Qf v (n+1)*B9:=Int.mul_le_mul_of_nonneg_right ht (by decide)
 have t1:t<B9:=by
  refine Int.not_le.1 fun hc=>?_
  have e2:B9*Qf v (n+1)≤t*Qf v (n+1):=Int.mul_le_mul_of_nonneg_right hc (by omega)
  rw [Int.mul_comm] at e2
  omega
 refine⟨t0,t1,zK h t0 t1 e ?_,hu⟩
 have e3:t*Qf v n≤B9*B9:=Int.mul_le_mul (by omega) (by omega) d2.1 (by decide)
 have e4:B9*B9≤r*B9:=Int.mul_le_mul_of_nonneg_right hr (by decide)
 omega
theorem RW {u v:List Int} {t:Int} (hu:DG B9 u) (t0:0≤t) (h:dv B9 u<t*dv B9 v):0≤t - 1:=by
 have:=Qw (b:=B9) (by decide) hu
 rcases Int.lt_or_le 0 t with g | g
 ·omega
 ·have e:t=0:=by omega
  subst e;rw [Int.zero_mul] at h;omega
theorem Ow {rest:List Value} {w0:World} {F0:Gs} {G:Gs→Prop} {bs:List (Nat×Obj)} {bu nu cu j m:Nat} {rv:Sr} {U v:List Int} (hU:U.length=nu) (hj:j+m+3≤nu) (hn:nu≤1000000000) (hG:∀ F,G F→JP F rv v) (hS:Vh B9 ((U.drop j).take (m+3)) v m) :
  XD Tryz.prog 251 [.slice (some ⟨bu,0,none⟩) nu cu,rv.v,.int .i64 (j:Int)] ⟨w0,F0,(bu,.cells (U.map Q3++rest).toArray 3 (0,0))::bs,G⟩ (fun t:Int=>.int .i64 t) (fun t=>⟨w0,F0,(bu,.cells (U.map Q3++rest).toArray 3 (0,0))::bs,fun F=>G F∧Ii ((U.drop j).take (m+3)) v t⟩):=by
 obtain ⟨q,n,c⟩:=rv
 have hlv:=hS.lv
 have h9:B9=1000000000:=rfl
 have u2:Qf ((U.drop j).take (m+3)) (m+2)=Qf U (j+(m+2)):=N2 (by omega)
 have u1:Qf ((U.drop j).take (m+3)) (m+1)=Qf U (j+(m+1)):=N2 (by omega)
 have u0:Qf ((U.drop j).take (m+3)) m=Qf U (j+m):=N2 (by omega)
 have b2:=hS.hu.Qf JE (m+2)
 have b1:=hS.hu.Qf JE (m+1)
 have b0:=hS.hu.Qf JE m
 have c1:=hS.hv.Qf JE (m+1)
 have c0:=hS.hv.Qf JE m
 have nz:=hS.nz
 refine XD.intro Tryz.func251 rfl rfl rfl rfl ?_
 dsimp only [Sr.v]
 refine Xo _ (fun w F hF h=>(hG F h).2.1) (fun hnv=>?_)
 dsimp only at hnv
 obtain rfl:n=m+2:=by omega
 refine Xo _ (fun w F hF h=>(hG F h).1.ptr (by dsimp only;omega)) (fun hq=>?_)
 obtain ⟨qb,qo,hq⟩:=hq
 dsimp only at hq
 subst hq
 refine QG<|QB<|QA (QE rfl)<|QF<|QC<|QG<|QB<|QA (QD rfl)<|QA (Qn rfl Qe)<|QA (QE rfl)<|QF<|QC<|QG<|JG (List.Sublist.refl _) mixed (by kernel_rfl)<|QK (QD rfl)<|QK (QD rfl)<|QK (QD rfl)<|QK (Qu rfl rfl (by omega))<|QK (Qx (i:=j+(m+2)) rfl (congrArg (fun z:Int=>some (Value.int .i64 z)) (by omega)) Qe Qp (by omega))<|QK (Ya (v:=.int .i64 (Qf ((U.drop j).take (m+3)) (m+2))) (c:=U.map Q3++rest) (T':=3) rfl Qp .here (by rw [u2];exact Zo (by omega)))<|QK (WI rfl rfl (by omega))<|QK (QD rfl)<|QK (QD rfl)<|QK (QD rfl)<|QK (Qu rfl rfl (by omega)) ?_
 refine QK (Jx rfl rfl (by omega))<|QK (Qx (i:=j+(m+1)) rfl (congrArg (fun z:Int=>some (Value.int .i64 z)) (by omega)) Qe Qp (by omega))<|QK (Ya (v:=.int .i64 (Qf ((U.drop j).take (m+3)) (m+1))) (c:=U.map Q3++rest) (T':=3) rfl Qp .here (by rw [u1];exact Zo (by omega)))<|QK (Qu rfl rfl (by omega))<|QK (QE rfl)<|Q2<|QC<|QG<|JG (List.Sublist.refl _) mixed (by kernel_rfl)<|QK (QD rfl)<|QK (QD rfl)<|QK (QD rfl)<|QK (Jx rfl rfl (by omega))<|QK (Qx (i:=m+1) rfl (congrArg (fun z:Int=>some (Value.int .i64 z)) (by omega)) Qe Qp (by omega))<|QK (XY (n:=m+2) (sz:=1) (cs:=v.map Q3) rfl Qp (fun F h=>(hG F h).1) (by omega) (JL (show m+1<v.length by omega)))<|QK (V8 rfl rfl (by omega) (by omega) (by omega))<|QK (QD rfl)<|QK (QD rfl)<|QK (QD rfl)<|QK (Jx rfl rfl (by omega))<|QK (Qx (i:=m+1) rfl (congrArg (fun z:Int=>some (Value.int .i64 z)) (by omega)) Qe Qp (by omega))<|QK (XY (n:=m+2) (sz:=1) (cs:=v.map Q3) rfl Qp (fun F h=>(hG F h).1) (by omega) (JL (show m+1<v.length by omega)))<|QK (KH rfl rfl (by omega) (by omega))<|QK (QE rfl)<|QK (QE rfl) ?_
 refine Q2<|QC<|QG<|Qa ?_
 refine XU (ι:=gZ ((U.drop j).take (m+3)) v m) (fun i=>[(0,.slice (some ⟨bu,0,none⟩) nu cu),(1,.slice (some ⟨qb,qo,none⟩) (m+2) c),(2,.int .i64 (j:Int)),(7,.int .i64 ((m+2:Nat):Int)),(9,.int .i64 i.t),(10,.int .i64 i.r)]) (fun _=>(bu,.cells (U.map Q3++rest).toArray 3 (0,0))::bs) (fun _=>G) (fun i=>i.t.toNat)
  ⟨(Qf ((U.drop j).take (m+3)) (m+2)*1000000000+Qf ((U.drop j).take (m+3)) (m+1)) / Qf v (m+1),(Qf ((U.drop j).take (m+3)) (m+2)*1000000000+Qf ((U.drop j).take (m+3)) (m+1))%Qf v (m+1),Int.ediv_nonneg (by omega) (by omega),Int.emod_nonneg _ (by omega),Int.lt_trans (Int.emod_lt_of_pos _ nz) c1.2,Int.le_trans (Int.ediv_le_self (a:=(Qf ((U.drop j).take (m+3)) (m+2)*1000000000+Qf ((U.drop j).take (m+3)) (m+1))) _ (by omega)) (by omega),by rw [Int.mul_comm,Int.add_comm];exact Int.emod_add_mul_ediv _ _,j8 hS (Int.ediv_nonneg (by omega) (by omega)) (Int.lt_ediv_add_one_mul_self _ nz)⟩ ⟨rfl,rfl,rfl,rfl,rfl,rfl,trivial⟩ (List.Sublist.refl _) (fun _ h=>h) (fun i=>?_)
 have t0:=i.t0
 have r0:=i.r0
 have r1:=i.r1
 have t2:=i.t2
 refine QG<|QG<|JG (List.Sublist.refl _) mixed (by kernel_rfl)<|QK (QD rfl)<|QK (QU rfl rfl rfl)<|QK (QD rfl) ?_
 refine DU (t:=44) rfl (fun hb44=>?_) (fun hb44=>?_)
 ·
  refine Ju rfl rfl rfl<|Ju rfl rfl rfl<|Ju rfl rfl rfl<|Ju rfl rfl rfl<|Ju rfl rfl rfl<|Ju rfl rfl rfl<|Ju rfl rfl rfl<|Ju rfl rfl rfl<|Ju rfl rfl rfl<|Ju rfl rfl rfl<|Ju rfl rfl rfl<|Ju rfl rfl rfl<|Ju rfl rfl rfl<|Ju rfl rfl rfl<|Ju rfl rfl rfl<|Ju rfl rfl rfl<|Ju rfl rfl rfl<|Ju rfl rfl rfl<|QK (Qj rfl rfl rfl)<|Q2<|QC<|VC rfl ?_
  have hl:dv B9 ((U.drop j).take (m+3))<i.t*dv B9 v:=ka hS (by have:=of_decide_eq_true hb44;omega)
  refine QP<|QC<|Qa<|QG<|QB<|QA (QD rfl)<|QA (Jx rfl rfl (by omega))<|QA (QE rfl)<|QF<|QC<|QG<|QB<|QA (QD rfl)<|QA (QD rfl)<|QA (QD rfl)<|QA (Jx rfl rfl (by omega))<|QA (Qx (i:=m+1) rfl (congrArg (fun z:Int=>some (Value.int .i64 z)) (by omega)) Qe Qp (by omega))<|QA (XY (n:=m+2) (sz:=1) (cs:=v.map Q3) rfl Qp (fun F h=>(hG F h).1) (by omega) (JL (show m+1<v.length by omega)))<|QA (Qu rfl rfl (by omega))<|QA (QE rfl)<|QF<|QC<|QG<|QB<|QA (QD rfl) ?_
  refine QA (QU rfl rfl rfl)<|QF<|QC ?_
  refine QQ rfl (fun hc=>?_) (fun hc=>?_)
  ·
   refine QG<|QB<|QA (QD rfl)<|QA (QE rfl)<|QF<|QC<|QR ?_
   repeat (first | refine JH ?_ | refine JA ?_)
   exact Y8 (i.t - 1) rfl (.tmp rfl .nil) rfl (fun w h=>h.imp (List.Sublist.refl _) (fun F h=>⟨h,IP (r:=i.r+Qf v (m+1)) hS (RW hS.hu t0 hl) (by rw [Int.sub_mul,Int.one_mul,← i.e];omega) (by have:=of_decide_eq_true hc;omega) (by rw [Int.sub_add_cancel];exact hl)⟩))
  ·
   refine QP<|Ql ?_
   exact Qo (⟨i.t - 1,i.r+Qf v (m+1),(RW hS.hu t0 hl),by omega,by have:=of_decide_eq_false hc;omega,by omega,(by rw [Int.sub_mul,Int.one_mul,← i.e];omega),(by rw [Int.sub_add_cancel];exact hl)⟩:gZ ((U.drop j).take (m+3)) v m) (by show(i.t - 1).toNat<i.t.toNat;have:=(RW hS.hu t0 hl);omega) ⟨rfl,rfl,rfl,rfl,rfl,rfl,trivial⟩ (List.Sublist.refl _) (fun _ h=>h)
 ·
  have tb:i.t<B9:=by have:=of_decide_eq_false hb44;omega
  have p0:0≤i.t*Qf v m:=Int.mul_nonneg t0 c0.1
  have p1:i.t*Qf v m≤1000000000*1000000000:=Int.mul_le_mul (by omega) (by omega) c0.1 (by decide)
  refine XH rfl rfl<|QK (QD rfl)<|XH rfl rfl<|QK (QD rfl)<|XH rfl rfl<|QK (QD rfl)<|XH rfl rfl<|QK (Jx rfl rfl (by omega))<|XH rfl rfl<|QK (Qx (i:=m) rfl (congrArg (fun z:Int=>some (Value.int .i64 z)) (by omega)) Qe Qp (by omega))<|XH rfl rfl<|QK (XY (n:=m+2) (sz:=1) (cs:=v.map Q3) rfl Qp (fun F h=>(hG F h).1) (by omega) (JL (show m<v.length by omega)))<|XH rfl rfl<|QK (WI rfl rfl (by omega))<|XH rfl rfl<|QK (QD rfl)<|XH rfl rfl<|QK (WI rfl rfl (by omega))<|XH rfl rfl<|QK (QD rfl)<|XH rfl rfl<|QK (QD rfl)<|XH rfl rfl<|QK (QD rfl)<|XH rfl rfl ?_
  refine QK (Qu rfl rfl (by omega))<|XH rfl rfl<|QK (Jx rfl rfl (by omega))<|XH rfl rfl<|QK (Qx (i:=j+m) rfl (congrArg (fun z:Int=>some (Value.int .i64 z)) (by omega)) Qe Qp (by omega))<|XH rfl rfl<|QK (Ya (v:=.int .i64 (Qf ((U.drop j).take (m+3)) (m))) (c:=U.map Q3++rest) (T':=3) rfl Qp .here (by rw [u0];exact Zo (by omega)))<|XH rfl rfl<|QK (Qu rfl rfl (by omega))<|XH rfl rfl<|QK (QU rfl rfl rfl)<|QK (Qh rfl rfl rfl)<|Q2<|QC ?_
  refine QQ rfl (fun hc=>?_) (fun hc=>?_)
  ·
   have hl:dv B9 ((U.drop j).take (m+3))<i.t*dv B9 v:=yW hS t0 i.e (by have:=of_decide_eq_true hc;rw [h9];omega)
   refine QP<|QC<|Qa<|QG<|QB<|QA (QD rfl)<|QA (Jx rfl rfl (by omega))<|QA (QE rfl)<|QF<|QC<|QG<|QB<|QA (QD rfl)<|QA (QD rfl)<|QA (QD rfl)<|QA (Jx rfl rfl (by omega))<|QA (Qx (i:=m+1) rfl (congrArg (fun z:Int=>some (Value.int .i64 z)) (by omega)) Qe Qp (by omega))<|QA (XY (n:=m+2) (sz:=1) (cs:=v.map Q3) rfl Qp (fun F h=>(hG F h).1) (by omega) (JL (show m+1<v.length by omega)))<|QA (Qu rfl rfl (by omega))<|QA (QE rfl)<|QF<|QC<|QG<|QB<|QA (QD rfl) ?_
   refine QA (QU rfl rfl rfl)<|QF<|QC ?_
   refine QQ rfl (fun hc=>?_) (fun hc=>?_)
   ·
    refine QG<|QB<|QA (QD rfl)<|QA (QE rfl)<|QF<|QC<|QR ?_
    repeat (first | refine JH ?_ | refine JA ?_)
    exact Y8 (i.t - 1) rfl (.tmp rfl .nil) rfl (fun w h=>h.imp (List.Sublist.refl _) (fun F h=>⟨h,IP (r:=i.r+Qf v (m+1)) hS (RW hS.hu t0 hl) (by rw [Int.sub_mul,Int.one_mul,← i.e];omega) (by have:=of_decide_eq_true hc;omega) (by rw [Int.sub_add_cancel];exact hl)⟩))
   ·
    refine QP<|Ql ?_
    exact Qo (⟨i.t - 1,i.r+Qf v (m+1),(RW hS.hu t0 hl),by omega,by have:=of_decide_eq_false hc;omega,by omega,(by rw [Int.sub_mul,Int.one_mul,← i.e];omega),(by rw [Int.sub_add_cancel];exact hl)⟩:gZ ((U.drop j).take (m+3)) v m) (by show(i.t - 1).toNat<i.t.toNat;have:=(RW hS.hu t0 hl);omega) ⟨rfl,rfl,rfl,rfl,rfl,rfl,trivial⟩ (List.Sublist.refl _) (fun _ h=>h)
  ·
   refine Q5 ?_
   repeat (first | refine Qc ?_ | refine QX (by rfl) ?_)
   refine Qd<|QC<|QG<|QB<|QA (QD rfl)<|QA (QE rfl)<|QF<|QC<|QR ?_
   exact Y8 (i.t) rfl (.tmp rfl .nil) rfl (fun w h=>h.imp (List.Sublist.refl _) (fun F h=>⟨h,⟨t0,tb,zK hS t0 tb i.e (by have:=of_decide_eq_false hc;rw [h9];omega),i.h⟩⟩))
end
end Go.Proofs.YtknegjaeoffnbaaGreatDoor
namespace Ig
structure Pl (b:Int) (U v:List Int) (j:Nat) (t:Int) (i:Nat) (U':List Int) (br:Int):Prop where
 len:U'.length=U.length
 dg:DG b U'
 lo:U'.take j=U.take j
 hi:U'.drop (j+i)=U.drop (j+i)
 gH:0≤br
 vZ:br≤b
 h:dv b U'+b^j*(t*dv b (v.take i))=dv b U+b^(j+i)*br
theorem Pl.start {b:Int} (hb:0≤b) {U v:List Int} (hU:DG b U) (j:Nat) (t:Int):Pl b U v j t 0 U 0 :=
 ⟨rfl,hU,rfl,rfl,Int.le_refl _,hb,by simp⟩
theorem qG {l:List Int} {p k:Nat}:Qf (l.drop p) k=Qf l (p+k):=by
 by_cases g:p+k<l.length
 ·rw [ZO (by simp;omega),ZO g];simp
 ·rw [BC (by simp;omega),BC (by omega)]
theorem ZX {l m:List Int} {p q:Nat} (h:l.drop p=m.drop p) (hq:p≤q):Qf l q=Qf m q:=by
 have:=congrArg (fun x=>Qf x (q - p)) h
 simp only [qG] at this
 rw [show p+(q - p)=q by omega] at this;exact this
theorem qx {b t x br:Int} (hb:1<b) (ht:0≤t∧t<b) (hx:0≤x∧x<b) (h:0≤br∧br≤b):0≤t*x∧t*x≤(b - 1)*(b - 1)∧0≤(t*x+br) / b∧(t*x+br) / b<b:=by
 have h0:=Int.mul_nonneg ht.1 hx.1
 have h1:t*x≤(b - 1)*(b - 1):=Int.mul_le_mul (by omega) (by omega) hx.1 (by omega)
 refine⟨h0,h1,Int.ediv_nonneg (by omega) (by omega),Int.ediv_lt_of_lt_mul (by omega) ?_⟩
 have e:(b - 1)*(b - 1)=b*b - 2*b+1:=by grind
 omega
theorem Pl.step {b:Int} {U v U':List Int} {j i:Nat} {t br x br':Int} (h:Pl b U v j t i U' br) (hj:j+i<U.length)
  (hx:0≤x∧x<b) (hbr:br'≤b∧0≤br') (e:x - b*br'=Qf U (j+i) - (t*Qf v i+br)):Pl b U v j t (i+1) (U'.set (j+i) x) br':=by
 obtain ⟨h1,h2,h3,h4,h5,h6,h7⟩:=h
 have hd:Qf U' (j+i)=Qf U (j+i):=ZX h4 (Nat.le_refl _)
 refine⟨by simpa using h1,h2.set _ hx.1 hx.2,?_,?_,hbr.2,hbr.1,?_⟩
 ·rw [List.take_set_of_le (by omega)];exact h3
 ·rw [List.drop_set_of_lt (by omega),← Nat.add_assoc,← List.drop_drop,h4,List.drop_drop]
 ·rw [GR b (by omega),hd,VZ,← Nat.add_assoc,Int.pow_succ]
  have e':b^(j+i)*(x - b*br')=b^(j+i)*(Qf U (j+i) - (t*Qf v i+br)):=by rw [e]
  rw [Int.pow_add] at *
  generalize b^i=p at *
  generalize b^j=q at *
  grind
structure S4 (b:Int) (U v:List Int) (j n:Nat) (t:Int) (U':List Int) (top:Int):Prop where
 len:U'.length=U.length
 dg:DG b (U'.set (j+n) 0)
 lo:U'.take j=U.take j
 hi:U'.drop (j+n+1)=U.drop (j+n+1)
 tp:Qf U' (j+n)=top
 h:dv b U'=dv b U - b^j*(t*dv b v)
theorem Pl.stop {b:Int} (hb:1<b) {U v U':List Int} {j n:Nat} {t br:Int} (h:Pl b U v j t n U' br) (hn:v.length=n) (hj:j+n<U.length):S4 b U v j n t (U'.set (j+n) (Qf U (j+n) - br)) (Qf U (j+n) - br):=by
 obtain ⟨h1,h2,h3,h4,h5,h6,h7⟩:=h
 have hd:Qf U' (j+n)=Qf U (j+n):=ZX h4 (Nat.le_refl _)
 refine⟨by simpa using h1,?_,?_,?_,?_,?_⟩
 ·rw [List.set_set];exact h2.set _ (Int.le_refl _) (by omega)
 ·rw [List.take_set_of_le (by omega)];exact h3
 ·rw [List.drop_set_of_lt (by omega),← List.drop_drop,h4,List.drop_drop]
 ·rw [Vy (by omega),if_pos rfl]
 ·rw [GR b (by omega),hd]
  rw [List.take_of_length_le (by omega)] at h7
  generalize b^(j+n)=p at *
  generalize b^j=q at *
  grind
theorem ZC (b:Int) (l:List Int) (j:Nat):dv b l=dv b (l.take j)+b^j*dv b (l.drop j):=by
 by_cases h:j≤l.length
 ·exact Ka b l j h
 ·rw [List.take_of_length_le (by omega),List.drop_of_length_le (by omega)];simp
theorem S4.part {b:Int} (hb:0<b) {U v U':List Int} {j n:Nat} {t top:Int} (h:S4 b U v j n t U' top):dv b (U'.drop j)=dv b (U.drop j) - t*dv b v:=by
 have e:=h.h
 rw [ZC b U' j,ZC b U j,h.lo] at e
 have hp:=pow_pos hb j
 have e2:b^j*dv b (U'.drop j)=b^j*(dv b (U.drop j) - t*dv b v):=by
  rw [Int.mul_sub];generalize b^j*dv b (U'.drop j)=x at *;generalize b^j*dv b (U.drop j)=y at *;omega
 exact Int.eq_of_mul_eq_mul_left (by omega) e2
theorem EH {l:List Int} {j n:Nat} (h:j+n<l.length):l.drop j=(l.drop j).take n++Qf l (j+n)::l.drop (j+n+1):=by
 have e:(l.drop j).drop n=Qf l (j+n)::l.drop (j+n+1):=by
  rw [List.drop_drop,XB h]
 rw [← e,List.take_append_drop]
theorem Lc {b:Int} (hb:1<b) {U:List Int} {k n:Nat} (hU:DG b U) (h:dv b (U.drop k)<b^n):dv b (U.drop (k+n))=0:=by
 have e:=ZC b (U.drop k) n
 rw [List.drop_drop] at e
 have h1:=Qw (b:=b) (by omega) ((hU.drop k).take n)
 have h2:=Qw (b:=b) (by omega) (hU.drop (k+n))
 have hp:=pow_pos (b:=b) (by omega) n
 rcases Int.lt_or_le 0 (dv b (U.drop (k+n))) with g | g
 ·have:b^n*1≤b^n*dv b (U.drop (k+n)):=Int.mul_le_mul_of_nonneg_left (by omega) (by omega)
  rw [Int.mul_one] at this;omega
 ·omega
theorem S4.sign {b:Int} (hb:1<b) {U v U':List Int} {j n:Nat} {t top:Int} (h:S4 b U v j n t U' top) (hz:dv b (U.drop (j+n+1))=0) (hj:j+n<U.length) :
  ∃ lo,0≤lo∧lo<b^n∧dv b (U'.drop j)=lo+b^n*top:=by
 have hlen:=h.len
 have hw:=EH (l:=U') (j:=j) (n:=n) (by omega)
 refine⟨dv b ((U'.drop j).take n),?_,?_,?_⟩
 ·have:DG b ((U'.drop j).take n):=by
   have:=((h.dg.drop j).take n)
   rw [List.drop_set,if_neg (by omega),Nat.add_sub_cancel_left,List.take_set_of_le (Nat.le_refl _)] at this;exact this
  exact Qw (by omega) this
 ·have:DG b ((U'.drop j).take n):=by
   have:=((h.dg.drop j).take n)
   rw [List.drop_set,if_neg (by omega),Nat.add_sub_cancel_left,List.take_set_of_le (Nat.le_refl _)] at this;exact this
  have h2:=Z5 (by omega:0<b) this
  rw [show((U'.drop j).take n).length=n by simp;omega] at h2;exact h2
 ·have e:=congrArg (dv b) hw
  rw [ZN,Yc,h.hi,hz,h.tp,show((U'.drop j).take n).length=n by simp;omega] at e
  simpa using e
theorem S4.yZ {b:Int} (hb:1<b) {U v U':List Int} {j n:Nat} {t top:Int} (h:S4 b U v j n t U' top) (hj:j+n<U.length) (h0:0≤top) (ht:top<b)
  (g:dv b (U.drop j)<(t+1)*dv b v):DG b U'∧dv b (U'.drop j)<dv b v∧dv b U'=dv b U - b^j*(t*dv b v):=by
 have hp:=h.part (by omega)
 refine⟨?_,?_,h.h⟩
 ·have e:U'=(U'.set (j+n) 0).set (j+n) top:=by
   rw [List.set_set]
   have:=h.tp
   rw [ZO (by rw [h.len];exact hj)] at this
   rw [← this,List.set_getElem_self]
  rw [e];exact h.dg.set _ h0 ht
 ·rw [hp];rw [Int.add_mul,Int.one_mul] at g;omega
structure DY (b:Int) (U v:List Int) (j n i:Nat) (U':List Int) (c:Int):Prop where
 len:U'.length=U.length
 dg:DG b (U'.set (j+n) 0)
 lo:U'.take j=U.take j
 hi:U'.drop (j+i)=U.drop (j+i)
 c0:0≤c
 c1:c≤1
 h:dv b U'+b^(j+i)*c=dv b U+b^j*dv b (v.take i)
theorem DY.start {b:Int} {U v:List Int} {j n:Nat} (hU:DG b (U.set (j+n) 0)):DY b U v j n 0 U 0 :=
 ⟨rfl,hU,rfl,rfl,Int.le_refl _,by omega,by simp⟩
theorem DY.step {b:Int} {U v U':List Int} {j n i:Nat} {c x c':Int} (h:DY b U v j n i U' c) (hi:i<n) (hj:j+n<U.length)
  (hx:0≤x∧x<b) (hc:0≤c'∧c'≤1) (e:x+b*c'=Qf U (j+i)+Qf v i+c):DY b U v j n (i+1) (U'.set (j+i) x) c':=by
 obtain ⟨h1,h2,h3,h4,h5,h6,h7⟩:=h
 have hd:Qf U' (j+i)=Qf U (j+i):=ZX h4 (Nat.le_refl _)
 refine⟨by simpa using h1,?_,?_,?_,hc.1,hc.2,?_⟩
 ·rw [List.set_comm _ _ (by omega)];exact h2.set _ hx.1 hx.2
 ·rw [List.take_set_of_le (by omega)];exact h3
 ·rw [List.drop_set_of_lt (by omega),← Nat.add_assoc,← List.drop_drop,h4,List.drop_drop]
 ·rw [GR b (by omega),hd,VZ,← Nat.add_assoc,Int.pow_succ]
  have e':b^(j+i)*(x+b*c')=b^(j+i)*(Qf U (j+i)+Qf v i+c):=by rw [e]
  rw [Int.pow_add] at *
  generalize b^i=p at *
  generalize b^j=q at *
  grind
theorem DY.Qf {b:Int} (hb:1<b) {U v U':List Int} {j n i:Nat} {c:Int} (h:DY b U v j n i U' c) (hi:i<n):0≤Qf U' (j+i)∧Qf U' (j+i)<b:=by
 have:=h.dg.Qf (by omega) (j+i)
 by_cases g:j+n<U'.length
 ·rw [Vy g,if_neg (by omega)] at this;exact this
 ·rw [List.set_eq_of_length_le (by omega)] at this;exact this
theorem DY.yZ {b:Int} (hb:1<b) {U v U1 U':List Int} {j n:Nat} {t top c:Int} (h:DY b U1 v j n n U' c) (hs:S4 b U v j n t U1 top) (hU:DG b U) (hv:DG b v) (hn:v.length=n) (hz:dv b (U.drop (j+n+1))=0) (hj:j+n<U.length) (h0:top<0)
  (g:(t - 1)*dv b v≤dv b (U.drop j)):DG b (U'.set (j+n) (top+c))∧dv b ((U'.set (j+n) (top+c)).drop j)<dv b v∧dv b (U'.set (j+n) (top+c))=dv b U - b^j*((t - 1)*dv b v)∧0≤t - 1∧(U'.set (j+n) (top+c)).length=U.length:=by
 obtain ⟨lo,l0,l1,l2⟩:=hs.sign hb hz hj
 have hp:=hs.part (by omega)
 have hlen:=hs.len
 obtain ⟨a1,a2,a3,a4,a5,a6,a7⟩:=h
 have hd:Ig.Qf U' (j+n)=top:=by rw [ZX a4 (Nat.le_refl _),hs.tp]
 rw [List.take_of_length_le (by omega)] at a7
 have hv0:=Qw (b:=b) (by omega) hv
 have hv1:=Z5 (b:=b) (by omega) hv
 rw [hn] at hv1
 have hB:=pow_pos (b:=b) (by omega) n
 have hw:dv b (U'.set (j+n) (top+c))=dv b U - b^j*((t - 1)*dv b v):=by
  rw [GR b (by omega),hd]
  have e:=hs.h
  generalize b^(j+n)=p at *
  generalize b^j=q at *
  grind
 have hlo:(U'.set (j+n) (top+c)).take j=U.take j:=by
  rw [List.take_set_of_le (by omega),a3,hs.lo]
 have hpart:dv b ((U'.set (j+n) (top+c)).drop j)=dv b (U.drop j) - (t - 1)*dv b v:=by
  have e:=hw
  rw [ZC b _ j,ZC b U j,hlo] at e
  have hq:=pow_pos (b:=b) (by omega) j
  have e2:b^j*dv b ((U'.set (j+n) (top+c)).drop j)=b^j*(dv b (U.drop j) - (t - 1)*dv b v):=by
   rw [Int.mul_sub];generalize b^j*dv b ((U'.set (j+n) (top+c)).drop j)=x at *;generalize b^j*dv b (U.drop j)=y at *;omega
  exact Int.eq_of_mul_eq_mul_left (by omega) e2
 have hneg:dv b (U1.drop j)<0:=by
  rw [l2]
  have:b^n*top≤b^n*(-1):=Int.mul_le_mul_of_nonneg_left (by omega) (by omega)
  omega
 have hlt:dv b ((U'.set (j+n) (top+c)).drop j)<dv b v:=by
  rw [hpart,Int.sub_mul,Int.one_mul];omega
 have hge:0≤dv b ((U'.set (j+n) (top+c)).drop j):=by rw [hpart];omega
 have hsd:dv b ((U'.set (j+n) (top+c)).drop j)=dv b ((U'.drop j).take n)+b^n*(top+c):=by
  have hw2:=congrArg (dv b) (EH (l:=U'.set (j+n) (top+c)) (j:=j) (n:=n) (by simp;omega))
  have e3:(U'.set (j+n) (top+c)).drop (j+n+1)=U'.drop (j+n+1):=List.drop_set_of_lt (by omega)
  rw [ZN,Yc,Vy (show j+n<U'.length by omega),if_pos rfl,e3] at hw2
  have:dv b (U'.drop (j+n+1))=0:=by
   rw [← List.drop_drop,a4,List.drop_drop,hs.hi];exact hz
  have e2:((U'.set (j+n) (top+c)).drop j).take n=(U'.drop j).take n:=by
   rw [List.drop_set,if_neg (by omega),Nat.add_sub_cancel_left,List.take_set_of_le (Nat.le_refl _)]
  rw [this,e2,show((U'.drop j).take n).length=n by simp;omega] at hw2
  simpa using hw2
 have hdg:DG b ((U'.drop j).take n):=by
  have:=((a2.drop j).take n)
  rw [List.drop_set,if_neg (by omega),Nat.add_sub_cancel_left,List.take_set_of_le (Nat.le_refl _)] at this;exact this
 have d0:=Qw (b:=b) (by omega) hdg
 have d1:=Z5 (b:=b) (by omega) hdg
 rw [show((U'.drop j).take n).length=n by simp;omega] at d1
 have ht0:top+c=0:=by
  rw [hsd] at hlt hge
  have q1:¬ 1≤top+c:=fun q=>by
   have:b^n*1≤b^n*(top+c):=Int.mul_le_mul_of_nonneg_left q (by omega)
   omega
  have q2:¬ top+c≤-1:=fun q=>by
   have:b^n*(top+c)≤b^n*(-1):=Int.mul_le_mul_of_nonneg_left q (by omega)
   omega
  omega
 refine⟨?_,hlt,hw,?_,by simp;omega⟩
 ·rw [ht0];exact a2
 ·rcases Int.lt_or_le (t - 1) 0 with q | q
  ·exfalso
   have u0:=Qw (b:=b) (by omega) (hU.drop j)
   have:t*dv b v≤0:=Int.mul_nonpos_of_nonpos_of_nonneg (by omega) hv0
   omega
  ·exact q
end Ig
namespace Go.Proofs.YtknegjaeoffnbaaGreatDoor
section
open Go.RowKit Ig
def el {α:Type} [Inhabited α] (l:List α) (i:Nat):α:=l.getD i default
theorem Zl {α:Type} [Inhabited α] {l:List α} {i:Nat} (h:i<l.length):el l i=l[i]:=by simp [el,h]
theorem Je {α:Type} [Inhabited α] {l:List α} {i:Nat} (h:i<l.length):el l i∈l:=by rw [Zl h];exact List.getElem_mem h
theorem XW {α:Type} [Inhabited α] {f:α→List Value} {k:Nat} (hf:∀ x,(f x).length=k) {l:List α} {i j:Nat} {u:Value} (h:i<l.length) (hj:(f (el l i))[j]?=some u):(l.flatMap f)[i*k+j]?=some u:=by
 have hlt:j<k:=by
  rcases Nat.lt_or_ge j k with g | g
  ·exact g
  ·rw [List.getElem?_eq_none (by rw [hf];exact g)] at hj;cases hj
 rw [Sk hf l i j h hlt,← Zl h];exact hj
theorem Dt {α:Type} [Inhabited α] {f:α→Value} {l:List α} {i:Nat} (h:i<l.length):(l.map f)[i*1]?=some (f (el l i)):=by
 rw [Nat.mul_one,List.getElem?_map,List.getElem?_eq_getElem h,Zl h];rfl
theorem ZJ {α:Type} [Inhabited α] {l:List α} {i:Nat} (h:i<l.length):l.take (i+1)=l.take i++[el l i]:=by
 rw [List.take_succ_eq_append_getElem h,Zl h]
theorem ML {α:Type} [Inhabited α] {l:List α} {i:Nat} (h:i<l.length):l.drop i=el l i::l.drop (i+1):=by
 rw [List.drop_eq_getElem_cons h,Zl h]
theorem Xn {l:List Int} {i:Nat} (h:i<l.length):Qf l i=el l i:=by rw [ZO h,Zl h]
def zt (q:Option Addr):Nat:=(q.getD ⟨0,0,none⟩).block
def zr (q:Option Addr):Nat:=(q.getD ⟨0,0,none⟩).off
section
variable [Dr] [df:Df] {P:Program} {Q:Exit→Act→World→Prop} {N:Nat} {m:Sl} {E E0:Env} {ops:Array Oper} {l:List Oper} {w0:World} {F0:Gs} {bs:List (Nat×Obj)} {G:Gs→Prop} {ty:TypeId}
theorem JY {T e:TypeId} {x y:Operand} {q:Option Addr} {n c sz sz':Nat} {g:Bool} {cs:List Value} (i:Nat) (hr:∀ F,G F→JB F q n sz' cs) (hx:ev m x=some (.slice q n c)) (hy:ev m y=some (.int .i64 (i:Int))) (hT:BH P T=some e) (hs:YR P e=some (g,sz)) (hi:i<n) :
  Qt P N m (St ⟨w0,F0,bs,G⟩) (.indexAddr T x y) ty (.pointer (some ⟨zt q,zr q+i*sz,none⟩)):=fun a w _ _ _ _ ha hw=>by
 obtain ⟨F,hF⟩:=id hw
 obtain ⟨b,off,rfl⟩:=(hr F hF.hG).ptr (by omega)
 exact Qx hx hy hT hs hi a w _ _ _ _ ha hw
theorem Jf {T:TypeId} {x:Operand} {q:Option Addr} {n sz k:Nat} {cs:List Value} (j:Nat) {u:Value} (hr:∀ F,G F→JB F q n sz cs) (hn:0<n) (hx:ev m x=some (.pointer (some ⟨zt q,zr q+j,none⟩))) (ht:YR P T=some (false,k)) (hu:cs[j]?=some u) :
  Qt P N m (St ⟨w0,F0,bs,G⟩) (.load T x) ty u:=fun a w _ _ _ _ ha hw=>by
 obtain ⟨F,hF⟩:=id hw
 obtain ⟨b,off,rfl⟩:=(hr F hF.hG).ptr hn
 exact XY hx ht hr hn hu a w _ _ _ _ ha hw
theorem X9 {T:TypeId} {x:Operand} {q:Option Addr} {n sz k:Nat} {cs vs:List Value} (j:Nat) (hr:∀ F,G F→JB F q n sz cs) (hn:0<n) (hx:ev m x=some (.pointer (some ⟨zt q,zr q+j,none⟩))) (ht:YR P T=some (true,k)) (hl:vs.length=k) (hu:∀ i v,vs[i]?=some v→cs[j+i]?=some v) :
  Qt P N m (St ⟨w0,F0,bs,G⟩) (.load T x) ty (.agg vs.toArray):=fun a w _ _ _ _ ha hw=>by
 obtain ⟨F,hF⟩:=id hw
 obtain ⟨b,off,rfl⟩:=(hr F hF.hG).ptr hn
 exact Dj hx ht hr hn hl hu a w _ _ _ _ ha hw
theorem KD.append {m:Sl}:∀ {k l:Sl},KD m k→KD m l→KD m (k++l)
 |[],_,_,h=>h
 |(_,_)::_,_,⟨h1,h2⟩,h=>⟨h1,KD.append h2 h⟩
theorem J0 {ι:Type} {c:Code} (K:Sl) (M:ι→Sl) (B:ι→List (Nat×Obj)) (R:ι→Gs→Prop) (μ:ι→Nat) (i0:ι)
  (hk:KD m K) (hm:KD m (M i0)) (hb:(B i0).Sublist bs) (hg:∀ F,G F→R i0 F)
  (round:∀ i,J P c (Exit.then (Im N w0 F0 (fun i=>K++M i) B (fun i F=>G F∧R i F) μ i) Q) N (K++M i) ⟨w0,F0,B i,fun F=>G F∧R i F⟩):J P (.loop c) Q N m ⟨w0,F0,bs,G⟩ :=
 XU (fun i=>K++M i) B (fun i F=>G F∧R i F) μ i0 (hk.append hm) hb (fun F h=>⟨h,hg F h⟩) round
theorem Zf {ι:Type} {c:Code} (K:Sl) (M:ι→Sl) (μ:ι→Nat) (i0:ι) (hk:KD m K) (hm:KD m (M i0))
  (round:∀ i,J P c (Exit.then (Im N w0 F0 (fun i=>K++M i) (fun _=>bs) (fun _=>G) μ i) Q) N (K++M i) ⟨w0,F0,bs,G⟩):J P (.loop c) Q N m ⟨w0,F0,bs,G⟩ :=
 XU (fun i=>K++M i) (fun _=>bs) (fun _=>G) μ i0 (hk.append hm) (List.Sublist.refl _) (fun _ h=>h) round
theorem Ze {x y:Code} (K M:Sl) (hk:KD m K) (h1:J P x (Xy (fun a w=>Jt N (K++M) a∧St ⟨w0,F0,bs,G⟩ w)) N m ⟨w0,F0,bs,G⟩) (h2:J P y Q N (K++M) ⟨w0,F0,bs,G⟩):J P (.seq x y) Q N m ⟨w0,F0,bs,G⟩ :=
 zR _ _ _ h1 h2
theorem Ic {ι:Type} {x y:Code} (K:Sl) (M:ι→Sl) (B:ι→List (Nat×Obj)) (R:ι→Gs→Prop) (hk:KD m K) (h1:J P x (Xy (fun a w=>∃ i,Jt N (K++M i) a∧St ⟨w0,F0,B i,fun F=>G F∧R i F⟩ w)) N m ⟨w0,F0,bs,G⟩)
  (h2:∀ i,J P y Q N (K++M i) ⟨w0,F0,B i,fun F=>G F∧R i F⟩):J P (.seq x y) Q N m ⟨w0,F0,bs,G⟩ :=
 Ku (fun i=>K++M i) B (fun i F=>G F∧R i F) h1 h2
end
end
section
open Go.RowKit Ig
theorem B1:(1:Int)<B9:=by decide
theorem SO {b:List Int} {n:Nat} (db:DG B9 b) (zb:NZ b) (hn:b.length=n+1):1≤Qf b n∧1≤B9 / (Qf b n+1)∧B9 / (Qf b n+1)<B9∧B9 / (Qf b n+1)*(Qf b n+1)≤B9:=by
 have hd:=db.Qf JE n
 have h1:1≤Qf b n:=by
  have hlt:n<b.length:=by omega
  have:Qf b n≠0:=by
   intro e
   refine zb ?_
   rw [List.getLast?_eq_getElem?,hn,Nat.add_sub_cancel,List.getElem?_eq_getElem hlt]
   rw [ZO hlt] at e;rw [e]
  omega
 have h9:B9=1000000000:=rfl
 refine⟨h1,?_,?_,Int.ediv_mul_le _ (by omega)⟩
 ·exact(Int.le_ediv_iff_mul_le (by omega)).2 (by omega)
 ·exact Int.ediv_lt_of_lt_mul (by omega) (by rw [Int.mul_add];have:B9*1≤B9*Qf b n:=Int.mul_le_mul_of_nonneg_left h1 (by omega);omega)
theorem Cd {b v:List Int} {n:Nat} {f:Int} (db:DG B9 b) (zb:NZ b) (hn:b.length=n+1) (dv':DG B9 v) (zv:NZ v) (h:dv B9 v=dv B9 b*f) (h1:1≤f) (h2:f*(Qf b n+1)≤B9):v.length=n+1:=by
 have hlt:n<b.length:=by omega
 have e1:dv B9 b=dv B9 (b.take n)+B9^n*Qf b n:=by
  have:=VZ B9 b n
  rw [List.take_of_length_le (by omega)] at this;exact this
 have e2:=Z5 JE (db.take n)
 rw [show(b.take n).length=n by simp;omega] at e2
 have hb0:B9^n≤dv B9 b:=by
  have:=DA JE db zb (by intro e;rw [e] at hn;simp at hn)
  rw [hn,Nat.add_sub_cancel] at this;exact this
 have hp:=pow_pos JE n
 have hup:dv B9 b<B9^n*(Qf b n+1):=by rw [Int.mul_add,Int.mul_one];omega
 have hv1:dv B9 v<B9^(n+1):=by
  rw [h,Int.pow_succ]
  have:dv B9 b*f<B9^n*(Qf b n+1)*f:=Int.mul_lt_mul_of_pos_right hup (by omega)
  have q:B9^n*(Qf b n+1)*f≤B9^n*B9:=by
   rw [Int.mul_assoc,Int.mul_comm (Qf b n+1)]
   exact Int.mul_le_mul_of_nonneg_left h2 (by omega)
  omega
 have hv0:B9^n≤dv B9 v:=by
  rw [h]
  have:dv B9 b*1≤dv B9 b*f:=Int.mul_le_mul_of_nonneg_left h1 (by omega)
  omega
 rcases Nat.lt_trichotomy v.length (n+1) with g | g | g
 ·have h3:=Z5 JE dv'
  have h4:=KW (b:=B9) (by decide) (show v.length≤n by omega)
  omega
 ·exact g
 ·have h3:=DA JE dv' zv (by intro e;rw [e] at g;simp at g)
  have h4:=KW (b:=B9) (by decide) (show n+1≤v.length - 1 by omega)
  omega
theorem yO {b:Int} (hb:0<b) {U:List Int} {k:Nat} (hU:DG b U):b^k*dv b (U.drop k)≤dv b U:=by
 rw [ZC b U k]
 have:=Qw hb (hU.take k)
 omega
structure DV (a v:List Int) (f:Int) (n:Nat) where
 k:Nat
 U:List Int
 Q:List Int
 le:k+n≤a.length+1
 lu:U.length=a.length+1
 lq:Q.length=a.length+1 - n
 du:DG B9 U
 dq:DG B9 Q
 lt:dv B9 (U.drop k)<dv B9 v
 h:dv B9 a*f=dv B9 v*(B9^k*dv B9 (Q.drop k))+dv B9 U
def DV.start {a b v U:List Int} {f:Int} {n:Nat} (da:DG B9 a) (db:DG B9 b) (zb:NZ b) (hn:b.length=n+1) (hv:dv B9 v=dv B9 b*f) (h1:1≤f) (du:DG B9 U) (lu:U.length=a.length+1) (hU:dv B9 U=dv B9 a*f) (hl:n+1≤a.length+1):DV a v f (n+1) where
 k:=a.length+1 - (n+1)
 U:=U
 Q:=List.replicate (a.length+1 - (n+1)) 0
 le:=by omega
 lu:=lu
 lq:=by simp
 du:=du
 dq:=DG.replicate JE _
 lt:=by
  have hb0:B9^n≤dv B9 b:=by
   have:=DA JE db zb (by intro e;rw [e] at hn;simp at hn)
   rw [hn,Nat.add_sub_cancel] at this;exact this
  have h2:=yO JE (k:=a.length - n) du
  have h3:=Z5 JE da
  have h4:dv B9 a*f<B9^a.length*f:=Int.mul_lt_mul_of_pos_right h3 (by omega)
  have h5:B9^a.length*f=B9^(a.length - n)*(B9^n*f):=by rw [← Int.mul_assoc,← Int.pow_add];congr 2;omega
  rw [hU] at h2
  have h6:B9^(a.length - n)*dv B9 (U.drop (a.length - n))<B9^(a.length - n)*(B9^n*f):=by omega
  have h7:dv B9 (U.drop (a.length - n))<B9^n*f:=Int.lt_of_mul_lt_mul_left h6 (by have:=pow_pos JE (a.length - n);omega)
  have h8:B9^n*f≤dv B9 b*f:=Int.mul_le_mul_of_nonneg_right hb0 (by omega)
  rw [show a.length+1 - (n+1)=a.length - n by omega,hv]
  omega
 h:=by
  rw [List.drop_of_length_le (by simp),Ss,Int.mul_zero,Int.mul_zero,Int.zero_add,hU]
theorem DV.zero {a v:List Int} {f:Int} {n:Nat} (i:DV a v f n) (dv':DG B9 v) (hv:v.length=n):dv B9 (i.U.drop (i.k+n))=0:=by
 have:=Z5 JE dv'
 rw [hv] at this
 exact Lc B1 i.du (Int.lt_trans i.lt this)
theorem DV.Od {a v:List Int} {f:Int} {m:Nat} (i:DV a v f (m+2)) (dv':DG B9 v) (zv:0<Qf v (m+1)) (hv:v.length=m+2) (hk:0<i.k):Vh B9 ((i.U.drop (i.k - 1)).take (m+3)) v m∧dv B9 (i.U.drop (i.k - 1))=dv B9 ((i.U.drop (i.k - 1)).take (m+3)):=by
 have hz:=i.zero dv' hv
 have hle:=i.le
 have hlu:=i.lu
 have e:dv B9 (i.U.drop (i.k - 1))=dv B9 ((i.U.drop (i.k - 1)).take (m+3)):=by
  have:=ZC B9 (i.U.drop (i.k - 1)) (m+3)
  rw [List.drop_drop,show i.k - 1+(m+3)=i.k+(m+2) by omega,hz] at this
  simpa using this
 refine⟨⟨(i.du.drop _).take _,dv',by simp;omega,hv,zv,?_⟩,e⟩
 rw [← e,XB (by omega),Yc,show i.k - 1+1=i.k by omega]
 have hd:=i.du.Qf JE (i.k - 1)
 have hlt:=i.lt
 have:B9*dv B9 (i.U.drop i.k)≤B9*(dv B9 v - 1):=Int.mul_le_mul_of_nonneg_left (by omega) (by decide)
 rw [Int.mul_sub,Int.mul_one] at this
 omega
def DV.next {a v:List Int} {f:Int} {n:Nat} (i:DV a v f n) (hk:0<i.k) (hn:0<n) {U1:List Int} {t:Int} (t0:0≤t) (t1:t<B9) (h1:DG B9 U1) (h2:dv B9 (U1.drop (i.k - 1))<dv B9 v) (h3:dv B9 U1=dv B9 i.U - B9^(i.k - 1)*(t*dv B9 v)) (h4:U1.length=i.U.length):DV a v f n where
 k:=i.k - 1
 U:=U1
 Q:=i.Q.set (i.k - 1) t
 le:=by have:=i.le;omega
 lu:=by rw [h4,i.lu]
 lq:=by rw [List.length_set,i.lq]
 du:=h1
 dq:=i.dq.set _ t0 t1
 lt:=h2
 h:=by
  have hle:=i.le
  have hlq:=i.lq
  rw [h3,XB (l:=i.Q.set (i.k - 1) t) (by rw [List.length_set];omega),Yc,Vy (by omega),if_pos rfl,List.drop_set_of_lt (by omega),show i.k - 1+1=i.k by omega,i.h]
  have e:B9^i.k=B9^(i.k - 1)*B9:=by rw [← Int.pow_succ];congr 1;omega
  rw [e]
  generalize B9^(i.k - 1)=p
  generalize dv B9 (i.Q.drop i.k)=q
  generalize dv B9 i.U=u
  generalize dv B9 v=y
  generalize B9=B
  grind
theorem DV.stop {a b v:List Int} {f:Int} {n:Nat} (i:DV a v f n) (hk:i.k=0) (db:DG B9 b) (da:DG B9 a) (hv:dv B9 v=dv B9 b*f) (h1:1≤f) (hb:0<dv B9 b) (dv':DG B9 v) (lv:v.length=n) :
  dv B9 i.Q=dv B9 a / dv B9 b∧dv B9 (i.U.take n)=f*(dv B9 a%dv B9 b):=by
 have h:=i.h
 have lt:=i.lt
 rw [hk,List.drop_zero] at lt
 have hz:=i.zero dv' lv
 rw [hk,Nat.zero_add] at hz
 have e0:dv B9 (i.U.take n)=dv B9 i.U:=by
  rw [ZC B9 i.U n,hz];simp
 rw [hk,List.drop_zero,Int.pow_zero,Int.one_mul,hv] at h
 rw [hv] at lt
 have u0:=Qw JE i.du
 rw [e0]
 have e1:dv B9 i.U=f*(dv B9 a - dv B9 b*dv B9 i.Q):=by rw [Int.mul_sub];grind
 have lt2:f*(dv B9 a - dv B9 b*dv B9 i.Q)<f*dv B9 b:=by rw [← e1,Int.mul_comm f (dv B9 b)];exact lt
 have r1:dv B9 a - dv B9 b*dv B9 i.Q<dv B9 b:=Int.lt_of_mul_lt_mul_left lt2 (by omega)
 have r0:0≤dv B9 a - dv B9 b*dv B9 i.Q:=by
  rcases Int.lt_or_le (dv B9 a - dv B9 b*dv B9 i.Q) 0 with g | g
  ·have:f*(dv B9 a - dv B9 b*dv B9 i.Q)≤f*(-1):=Int.mul_le_mul_of_nonneg_left (by omega) (by omega)
   omega
  ·exact g
 have q:dv B9 a / dv B9 b=dv B9 i.Q:=X3 hb (by rw [Int.mul_comm];omega) (by rw [Int.add_mul,Int.one_mul,Int.mul_comm];omega)
 refine⟨q.symm,?_⟩
 rw [e1]
 have:=Int.emod_def (dv B9 a) (dv B9 b)
 rw [this,q]
end
section
open Go.RowKit Ig
section
variable [Dr] [df:Df] {P:Program} {Q:Exit→Act→World→Prop} {N:Nat} {m:Sl} {ops:Array Oper} {l:List Oper} {w0:World} {F0:Gs} {bs:List (Nat×Obj)} {G:Gs→Prop} {ty:TypeId} {pos:String} {aft:Array Edge}
theorem Gb {d:Nat} {t e:TypeId} {sz:Nat} {g:Bool} (ht:P.underlying t=some (.slice e)) (hs:YR P e=some (g,sz)) (k:∀ b,JS P ops Q l N ((d,.slice (some ⟨b,0,none⟩) 0 0)::m) ⟨w0,F0,(b,.cells #[] e (0,0))::bs,G⟩) (hu:Wh e=true:=by rfl) (hd:J7 N (some d)=true:=by rfl) :
  JS P ops Q (⟨some d,.buildSlice t 0 #[],ty,pos,aft,none⟩::l) N m ⟨w0,F0,bs,G⟩:=fun a w ha hw=>wpList_plain rfl fun K hK=>by
 refine upon_value (v:=.slice (some ⟨w.heap.size,0,none⟩) 0 0) (w':=w.alloc (.cells #[] e)) ?_ (hK _ _ (k _ _ _ (ha.put hd _) (hw.alloc _ (Xm hu))))
 have hrun:(Instr.buildSlice t 0 #[]).run P w = .ok (.slice (some ⟨w.heap.size,0,none⟩) 0 0) (w.alloc (.cells #[] e)):=by
  have hf:Instr.fill (fun i=>some (i*sz,sz)) (Array.map (fun x=>(#[]:Array Value)[x%(#[]:Array Value).size]!) (Array.range 0)) []=some #[]:=by simp [Instr.fill]
  simp only [Instr.buildSlice,Sem.run_bind,run_underlying ht,Result.andThen_ok,YS hs,Nat.zero_mul,if_neg (show ¬ 0>2^24 by omega),Sem.run_pure,if_true,hf,newRow,run_newObj]
  rfl
 simp [execOp,hrun]
theorem Tu {T e e':TypeId} {sz n:Nat} {x:Operand} {v:Value} {cs:List Value} {ob:List (Nat×Obj)} {S:World→Prop} (hx:ev m x=some v) (hr:Q7 e' sz v n cs ob) (hT:BH P T=some e):Qt P N m S (.call ⟨.builtin .len,#[x],#[T]⟩) ty (.int .i64 n):=by
 cases hr with
 |nil=>exact Qn hx hT
 |some=>exact Qn hx hT
theorem Q7.dM {T:TypeId} {sz n:Nat} {v:Value} {cs:List Value} {ob:List (Nat×Obj)} (hr:Q7 T sz v n cs ob) (hn:0<n):∃ b cap rest,v = .slice (Option.some ⟨b,0,Option.none⟩) n cap∧ob=[(b,.cells (cs++rest).toArray T (0,0))]∧n≤cap:=by
 cases hr with
 |nil=>exact absurd hn (Nat.lt_irrefl 0)
 |some h1 h2 h3 h4=>exact⟨_,_,_,rfl,rfl,h3⟩
theorem Src.vp {sz k b off c:Nat} {news:List Value} (hr:∀ F,G F→JB F (some ⟨b,off,none⟩) k sz news) (hk:0<k) (hl:news.length=k*sz):Src ⟨w0,F0,bs,G⟩ sz (.slice (.some ⟨b,off,none⟩) k c) k news :=
 ⟨hl,.inr ⟨_,_,rfl,fun w hw j v hv=>by rw [Vg];exact K6 hw hr hk hv⟩⟩
end
theorem JP.own {F:Gs} {b n c:Nat} {l:List Int} {rest:List Value} {T:TypeId} (h:F b=some ((l.map Q3++rest).toArray,T)) (hl:l.length=n) (hn:n≤c):JP F ⟨some ⟨b,0,none⟩,n,c⟩ l:=by
 refine⟨⟨by simp [hl],fun _=>⟨b,0,_,T,rfl,h,fun j u hu=>?_⟩⟩,hl,hn⟩
 have hj:j<(l.map Q3).length:=by rcases Nat.lt_or_ge j (l.map Q3).length with g | g;exact g;rw [List.getElem?_eq_none g] at hu;cases hu
 rw [Nat.zero_add,List.getElem?_toArray,List.getElem?_append,if_pos hj];exact hu
theorem JP.vt {F:Gs} {b n c:Nat} {l:List Int} {T:TypeId} (h:F b=some ((l.map Q3).toArray,T)) (hl:l.length=n) (hn:n≤c):JP F ⟨some ⟨b,0,none⟩,n,c⟩ l:=JP.own (rest:=[]) (by rw [List.append_nil];exact h) hl hn
theorem JP.one {F:Gs} {b:Nat} {x:Int} {T:TypeId} (h:F b=some (([Value.int .i64 x]:List Value).toArray,T)):JP F ⟨some ⟨b,0,none⟩,1,1⟩ [x]:=⟨JB.of h rfl,rfl,Nat.le_refl _⟩
theorem JP.take {F:Gs} {q:Option Addr} {n c k:Nat} {l:List Int} (h:JP F ⟨q,n,c⟩ l) (hk:k≤n):JP F ⟨q,k,c⟩ (l.take k):=by
 have hn:=h.2.1
 have hc:=h.2.2
 dsimp only at hn hc
 exact⟨h.1.take hn hk,by simp;omega,by show k≤c;omega⟩
theorem KY {l m:List Int} (hl:DG B9 l) (hm:DG B9 m) (zl:NZ l) (h:dv B9 l≤dv B9 m):l.length≤m.length:=by
 rcases Nat.lt_or_ge m.length l.length with g | g
 ·have:=Xe B1 hm hl zl g;omega
 ·exact g
theorem Sq (x:Int):dv B9 [x]=x:=by simp [dv]
theorem Ox {f x r t:Int} (hf:0<f) (h:f*x=f*r+t) (h0:0≤t) (h1:t<f):r=x:=by
 have e:t=f*(x - r):=by rw [Int.mul_sub];omega
 rcases Int.lt_trichotomy (x - r) 0 with g | g | g
 ·have:f*(x - r)≤f*(-1):=Int.mul_le_mul_of_nonneg_left (by omega) (by omega)
  omega
 ·omega
 ·have:f*1≤f*(x - r):=Int.mul_le_mul_of_nonneg_left (by omega) (by omega)
  omega
def zT (a b:List Int) (c:(Sr×List Int)×(Sr×List Int)) (F:Gs):Prop :=
 (JP F c.1.1 c.1.2∧DG B9 c.1.2∧NZ c.1.2∧dv B9 c.1.2=dv B9 a / dv B9 b)∧(JP F c.2.1 c.2.2∧DG B9 c.2.2∧NZ c.2.2∧dv B9 c.2.2=dv B9 a%dv B9 b)
theorem ja {F:Gs} {a b:List Int} (nb:b.length=1) (db:DG B9 b) (c:(Sr×List Int)×Int) {k:Nat}
  (h:JP F c.1.1 c.1.2∧DG B9 c.1.2∧NZ c.1.2∧0≤c.2∧c.2<Qf b 0∧dv B9 a=Qf b 0*dv B9 c.1.2+c.2∧c.1.2.length≤a.length) (h':JP F ⟨some ⟨k,0,none⟩,(Q6 [c.2]).length,1⟩ (Q6 [c.2])) :
  zT a b ((c.1.1,c.1.2),(⟨some ⟨k,0,none⟩,(Q6 [c.2]).length,1⟩,Q6 [c.2])) F:=by
 obtain ⟨h1,h2,h3,h4,h5,h6,_⟩:=h
 have e:dv B9 b=Qf b 0:=by
  obtain ⟨x,rfl⟩:=List.length_eq_one_iff.1 nb
  simp [dv,Qf]
 have b0:=db.Qf JE 0
 refine⟨⟨h1,h2,h3,?_⟩,h',(DG.cons h4 (by omega) (DG.nil _)).Q6,Xi _,?_⟩
 ·show dv B9 c.1.2=_
  rw [e];exact(X3 (by omega) (by rw [Int.mul_comm];omega) (by rw [Int.add_mul,Int.one_mul,Int.mul_comm];omega)).symm
 ·show dv B9 (Q6 [c.2])=_
  rw [XA,Sq,e,Zn (q:=dv B9 c.1.2) (by rw [Int.mul_comm];omega) (by rw [Int.add_mul,Int.one_mul,Int.mul_comm];omega),Int.mul_comm];omega
structure gT (a:List Int) (f:Int) where
 U:List Int
 v:Value
 ob:List (Nat×Obj)
 le:U.length≤a.length+1
 du:DG B9 U
 h:dv B9 U=dv B9 a*f
 hr:Q7 3 1 v U.length (U.map Q3) ob
structure gQ (U v:List Int) (j:Nat) (t:Int) where
 i:Nat
 U':List Int
 br:Int
 le:i≤v.length
 h:Pl B9 U v j t i U' br
structure gq (U v:List Int) (j n:Nat) where
 i:Nat
 U':List Int
 c:Int
 le:i≤n
 h:DY B9 U v j n i U' c
@[reducible] def vg (c:(Sr×List Int)×(Sr×List Int)):Value:=.tuple #[.slice c.1.1.q c.1.1.n c.1.1.cap,.slice c.2.1.q c.2.1.n c.2.1.cap]
set_option maxHeartbeats 4000000 in
theorem K1 {w:World} {F:Gs} {ra rb:Sr} {a b:List Int} (hF:Fits F w) (hA:JP F ra a) (hB:JP F rb b) (da:DG B9 a) (db:DG B9 b) (za:NZ a) (zb:NZ b) (hb:0<dv B9 b) (la:a.length≤10000000) (lb:b.length≤10000000) :
  QT Tryz.prog 201 [ra.v,rb.v] w F vg (fun c F=>zT a b c F):=by
 obtain ⟨q,n,c⟩:=ra
 obtain ⟨q',n',c'⟩:=rb
 have na:=hA.2.1
 have nb:=hB.2.1
 dsimp only at na nb
 have h9:B9=1000000000:=rfl
 have nb0:0<n':=by
  rcases Nat.eq_zero_or_pos n' with g | g
  ·rw [g] at nb;rw [List.eq_nil_of_length_eq_zero nb] at hb;simp at hb
  ·exact g
 dsimp only [Sr.v]
 refine QT.intro (G:=fun F=>JP F ⟨q,n,c⟩ a∧JP F ⟨q',n',c'⟩ b) Tryz.func201 rfl (by rfl) rfl rfl hF (fun F' hF'=>⟨hA.le hF',hB.le hF'⟩)<|QG<|QB<|QA (QE rfl)<|QA (QE rfl)<|QF<|QC<|QG<|QG<|QB<|QA (QD rfl)<|QA (QD rfl)<|QH rfl (fun w F hF ⟨hA,hB⟩=>WH hF (ra:=⟨q,n,c⟩) (rb:=⟨q',n',c'⟩) hA (hB) (da) (db) (za) (zb) (by omega) (by omega)) (fun _=>QA (QU rfl rfl rfl)<|QF<|QC ?_)
 refine QQ rfl (fun hc=>?_) (fun hc=>?_)
 ·
  have hlt:dv B9 a<dv B9 b:=by have:=of_decide_eq_true hc;unfold ZS at this;split at this;assumption;split at this<;>omega
  refine QG<|QB<|QA (QD rfl)<|QA (QE rfl)<|QA (QE rfl)<|QF<|QC<|QR ?_
  exact Jb (((⟨none,0,0⟩,[]),(⟨q,n,c⟩,a)):(Sr×List Int)×(Sr×List Int)) rfl (.tmp rfl (.tmp rfl .nil)) (rfl) (fun F ⟨⟨hA,hB⟩,_⟩=>⟨⟨⟨JB.nil F _ _,rfl,Nat.le_refl _⟩,DG.nil _,by simp [NZ],by rw [Ss];exact(Int.ediv_eq_zero_of_lt (Qw JE da) hlt).symm⟩,hA,da,za,(Int.emod_eq_of_lt (Qw JE da) hlt).symm⟩)
 ·
  have hge:dv B9 b≤dv B9 a:=by have:=of_decide_eq_false hc;unfold ZS at this;split at this;exact absurd this (by decide);omega
  refine QP<|QC<|QG<|QG<|QB<|QA (QD rfl)<|QA (Qn rfl Qe)<|QA (QU rfl rfl rfl)<|QF<|QC ?_
  refine QQ rfl (fun hc=>?_) (fun hc=>?_)
  ·
   have hn1:n'=1:=by have:=of_decide_eq_true hc;omega
   subst hn1
   obtain ⟨f1,_⟩:=SO (n:=0) db zb nb
   have bx:=db.Qf JE 0
   have d0:=bx.2
   refine QG<|QB<|QA (QD rfl)<|QA (QD rfl)<|QA (JY (n:=1) (0) (fun F ⟨⟨hA,hB⟩,_⟩=>(hB).1) rfl (congrArg (fun z:Int=>some (Value.int .i64 z)) (by omega)) Qe Qp (by omega))<|QA (Jf (n:=1) ((0)*1) (fun F ⟨⟨hA,hB⟩,_⟩=>(hB).1) (by omega) rfl Qp (JL (o:=b) (by omega)))<|QH rfl (fun w F hF ⟨⟨hA,hB⟩,_⟩=>EO hF (ra:=⟨q,n,c⟩) hA (da) (by omega) (by omega) (d0)) (fun c37=>QA (QD rfl)<|QA (QM rfl rfl)<|QA (QM rfl rfl)<|QA (QE rfl)<|QA (QE rfl)<|QF<|QC<|QG<|Xo _ (fun w F hF ⟨⟨⟨hA,hB⟩,_⟩,h37⟩=>h37.2) (fun p37=>QB<|QA (QD rfl)<|QA (QD rfl)<|QW rfl (Q8 Qe) Qp VE rfl rfl (fun b42=>QH rfl (fun w F hF ⟨⟨⟨⟨hA,hB⟩,_⟩,h37⟩,hs42⟩=>WW hF (r:=⟨some ⟨b42,0,none⟩,1,1⟩) (JP.one hs42) (by simp)) (fun c43=>QA (QE rfl)<|QA (QE rfl)<|QF<|QC ?_))))
   refine QR ?_
   exact Jb (((c37.1.1,c37.1.2),(⟨some ⟨b42,0,none⟩,(Q6 [c37.2]).length,1⟩,Q6 [c37.2])):(Sr×List Int)×(Sr×List Int)) rfl (.tmp rfl (.tmp rfl .nil)) (rfl) (fun F ⟨⟨⟨⟨⟨hA,hB⟩,_⟩,h37⟩,hs42⟩,h43⟩=>ja nb db c37 h37 h43)
  ·
   have hn2:n'≠1:=fun e=>of_decide_eq_false hc (by omega)
   obtain ⟨m,rfl⟩:∃ m,n'=m+2:=⟨n' - 2,by omega⟩
   obtain ⟨f1,f2,f3,f4⟩:=SO (n:=m+1) db zb nb
   have bx:=db.Qf JE (m+1)
   rw [h9] at bx f2 f3 f4
   have d1f:DG B9 [1000000000 / (Qf b (m+1)+1)]:=DG.cons (by omega) f3 (DG.nil _)
   refine QP<|QC<|QG<|QB<|QA (QD rfl)<|QA (QD rfl)<|QA (Qn rfl Qe)<|QA (Jx rfl rfl (by omega))<|QA (JY (n:=(m+2)) (m+1) (fun F ⟨⟨hA,hB⟩,_⟩=>(hB).1) rfl (congrArg (fun z:Int=>some (Value.int .i64 z)) (by omega)) Qe Qp (by omega))<|QA (Jf (n:=(m+2)) ((m+1)*1) (fun F ⟨⟨hA,hB⟩,_⟩=>(hB).1) (by omega) rfl Qp (JL (o:=b) (by omega)))<|QA (Qu rfl rfl (by omega))<|QA (V8 rfl rfl (by omega) (by omega) (by omega))<|QW rfl (Q8 Qe) Qp VE rfl rfl (fun b52=>QA (QE rfl)<|QF<|QC<|QG<|QB<|QA (QD rfl)<|QA (QD rfl) ?_)
   refine QH rfl (fun w F hF ⟨⟨⟨hA,hB⟩,_⟩,hs52⟩=>WY hF (ra:=⟨q',m+2,c'⟩) (rb:=⟨some ⟨b52,0,none⟩,1,1⟩) hB (JP.one hs52) (db) (d1f) (by omega) (by first | omega | (simp;done) | (simp;omega))) (fun c55=>?_);rcases c55 with ⟨v55,l55⟩;dsimp only
   refine JJ _ (fun w F hF ⟨⟨⟨⟨hA,hB⟩,_⟩,hs52⟩,⟨h55,h55p⟩⟩=>And.intro h55.2 h55p) (fun p55=>QA (QE rfl)<|QF<|QC<|QG ?_)
   obtain ⟨⟨n55,c55⟩,d55,e55,z55,m55⟩:=p55
   rw [Sq] at e55
   have l55l:l55.length=m+2:=Cd db zb nb d55 z55 e55 f2 f4
   obtain ⟨qv,nv,cv⟩:=v55
   dsimp only at n55 c55 ⊢
   obtain rfl:nv=m+2:=by omega
   have zv:0<Qf l55 (m+1):=by have:=(SO (n:=m+1) d55 z55 l55l).1;omega
   have hlab:b.length≤a.length:=KY db da zb hge
   refine QB<|QA (QD rfl)<|QA (Qn rfl Qe)<|QA (QE rfl)<|QF<|QC<|QG<|QB<|Gb (Q8 Qe) Qp (fun b58=>QA (QD rfl)<|QA (QD rfl) ?_)
   refine QH rfl (fun w F hF ⟨⟨⟨⟨hA,hB⟩,_⟩,hs52⟩,⟨h55,h55p⟩⟩=>WY hF (ra:=⟨q,n,c⟩) (rb:=⟨some ⟨b52,0,none⟩,1,1⟩) hA (JP.one hs52) (da) (d1f) (by omega) (by first | omega | (simp;done) | (simp;omega))) (fun c61=>?_);rcases c61 with ⟨v61,l61⟩;dsimp only
   refine JJ _ (fun w F hF ⟨⟨⟨⟨⟨hA,hB⟩,_⟩,hs52⟩,⟨h55,h55p⟩⟩,⟨h61,h61p⟩⟩=>And.intro h61.2 h61p) (fun p61=>?_)
   obtain ⟨⟨n61,c61⟩,d61,e61,z61,m61⟩:=p61
   rw [Sq] at e61
   have hpos:0<l61.length:=by
    rcases Nat.eq_zero_or_pos l61.length with g | g
    ·rw [List.eq_nil_of_length_eq_zero g,Ss] at e61
     have:0<dv B9 a*(1000000000 / (Qf b (m+1)+1)):=Int.mul_pos (by omega) (by omega)
     omega
    ·exact g
   obtain ⟨qa,na',ca⟩:=v61
   dsimp only at n61 c61 ⊢
   refine JJ _ (fun w F hF h=>h.2.1.1.ptr (by dsimp only;omega)) (fun hq=>?_)
   obtain ⟨qab,qao,hq⟩:=hq
   dsimp only at hq
   subst hq
   simp only [List.length_singleton] at m61
   refine Kv (bs1:=[]) (ob:=[(b58,.cells #[] 3 (0,0))]) (n:=0) (k:=na') (sz:=1) (olds:=[]) (news:=l61.map Q3) rfl rfl Qe Qp VE rfl DM (Q7.some (l:=[]) (rest:=[]) rfl rfl (Nat.le_refl _) (Nat.zero_le _)) (Src.vp (fun F h=>h.2.1.1) (by omega) (by simp;omega)) (by omega) (by omega) (fun v hv=>by obtain ⟨x,_,rfl⟩:=List.mem_map.1 hv;rfl) (fun v62 ob62 hr62=>QA (QE rfl)<|QF<|QC<|QG<|Qa<|J0 (ι:=gT a (1000000000 / (Qf b (m+1)+1))) [(0,_),(8,_),(9,_),(10,_)] (fun i=>[(11,i.v)]) (fun i=>i.ob) (fun i F=>True) (fun i=>a.length+1 - i.U.length) (⟨l61,v62,ob62,by omega,d61,e61,by rw [n61];simpa using hr62⟩) ⟨rfl,rfl,rfl,rfl,trivial⟩ ⟨rfl,trivial⟩ (List.Sublist.refl _) (fun _ _=>trivial) (fun i=>?_))
   simp only [List.cons_append,List.nil_append]
   have hle:=i.le
   refine QG<|QG<|QB<|QA (QD rfl)<|QA (Tu rfl i.hr Qe)<|QA (QD rfl)<|QA (Qn rfl Qe)<|QA (Qu rfl rfl (by omega))<|QA (QU rfl rfl rfl)<|QF<|QC ?_
   refine QQ rfl (fun hc=>?_) (fun hc=>?_)
   ·
    refine QP<|QC<|Qa<|QB<|QA (QD rfl)<|QW rfl (Q8 Qe) Qp VE rfl rfl (fun b70=>?_)
    refine Kv (bs1:=[]) (ob:=i.ob) (k:=1) (sz:=1) (news:=[.int .i64 0]) rfl rfl Qe Qp VE rfl DM i.hr (Src.row (off:=0) (fun F ⟨⟨⟨⟨⟨⟨⟨hA,hB⟩,_⟩,hs52⟩,⟨h55,h55p⟩⟩,⟨h61,h61p⟩⟩,_⟩,hs70⟩=>hs70) (fun j v hv=>by rw [Nat.zero_add];show([.int .i64 0].toArray)[j]?=some v;rw [List.getElem?_toArray];exact hv) rfl) (by omega) (by omega) (Z1 ⟨rfl,trivial⟩) (fun v71 ob71 hr71=>?_)
    refine QA (QE rfl)<|QF<|Ql ?_
    exact Qo (⟨i.U++[0],v71,ob71,by have:=of_decide_eq_true hc;simp;omega,i.du.append (DG.cons (by decide) (by decide) (DG.nil _)),by rw [XX,i.h];simp,by simpa [Q3] using hr71⟩) (by have:=of_decide_eq_true hc;show a.length+1 - (i.U++[0]).length<a.length+1 - i.U.length;rw [List.length_append,List.length_singleton];omega) ⟨rfl,rfl,rfl,rfl,rfl,trivial⟩ (List.Sublist.refl _) (fun F h=>⟨h.1.1,trivial⟩)
   ·
    refine Q5 ?_
    repeat (first | refine Qc ?_ | refine QX (by rfl) ?_)
    refine Qd<|QC<|QG ?_
    have hle0:=i.le
    have hU:i.U.length=a.length+1:=by have:=of_decide_eq_false hc;omega
    obtain ⟨U0,vU,obU,hle0,du0,hU0,hr0⟩:=i
    dsimp only at hU hle0 hU0 ⊢
    rw [hU] at hr0
    obtain ⟨bu,cu,rest,rfl,rfl,hcu⟩:=hr0.dM (by omega)
    refine QB<|QA (QD rfl)<|QA (Qn rfl Qe)<|QA (QD rfl)<|QA (Jx rfl rfl (by omega))<|TA (n:=a.length+1 - (m+2)) (bytes:=8) (congrArg (fun z:Int=>some (Value.int .i64 z)) (by omega)) (congrArg (fun z:Int=>some (Value.int .i64 z)) (by omega)) Qe Qp VE rfl DM (by omega) (by omega) (fun bq=>?_)
    rw [show ZY [Value.int .i64 0] (a.length+1 - (m+2))=(List.replicate (a.length+1 - (m+2)) (0:Int)).map Q3 by rw [VL];simp [Q3]]
    refine ZF (List.Perm.swap _ _ _)<|QA (QE rfl)<|QF<|QC<|QG<|QG<|QB<|QA (QD rfl)<|QA (Qn rfl Qe)<|QA (QD rfl)<|QA (Jx rfl rfl (by omega))<|QA (Jx rfl rfl (by omega))<|QA (QE rfl)<|QF<|QC<|Qa<|J0 (ι:=DV a l55 (1000000000 / (Qf b (m+1)+1)) (m+2)) [(8,_),(9,_),(10,_),(11,_),(12,_)] (fun i2=>[(13,.int .i64 ((i2.k:Int) - 1))]) (fun i2=>[(bu,.cells (i2.U.map Q3++rest).toArray 3 (0,0)),(bq,.cells (i2.Q.map Q3).toArray 3 (0,0))]) (fun i2 F=>True) (fun i2=>i2.k) (DV.start da db zb nb e55 f2 du0 hU hU0 (by omega)) ⟨rfl,rfl,rfl,rfl,rfl,trivial⟩ ⟨(congrArg (fun z:Int=>some (Value.int .i64 z)) (by simp only [DV.start];omega)),trivial⟩ (List.Sublist.refl _) (fun _ _=>trivial) (fun i2=>?_)
    simp only [List.cons_append,List.nil_append]
    have hle2:=i2.le
    have lu2:=i2.lu
    have lq2:=i2.lq
    refine QG<|QG<|QB<|QA (QD rfl)<|QA (QU rfl rfl rfl)<|QF<|QC ?_
    refine QQ rfl (fun hc=>?_) (fun hc=>?_)
    ·
     have hk0:0<i2.k:=by have:=of_decide_eq_true hc;omega
     rw [show((i2.k:Int) - 1)=((i2.k - 1:Nat):Int) by omega]
     obtain ⟨hst,hwe⟩:=i2.Od d55 zv l55l hk0
     have hz0:=i2.zero d55 l55l
     refine QP<|QC<|QG<|Qa<|QG<|QB<|QA (QD rfl)<|QA (QD rfl)<|QA (QD rfl)<|XQ (bs1:=_) rfl (List.Perm.refl _) (Ow (rest:=rest) (U:=i2.U) (v:=l55) (j:=(i2.k - 1)) (m:=m) (rv:=⟨qv,m+2,cv⟩) lu2 (by omega) (by omega) (fun F ⟨⟨⟨⟨⟨⟨⟨hA,hB⟩,_⟩,hs52⟩,⟨h55,h55p⟩⟩,⟨h61,h61p⟩⟩,_⟩,_⟩=>h55) hst) (fun t89=>JJ _ (fun w F hF h=>h.2) (fun g89=>?_))
     obtain ⟨t0,t1,t2,t3⟩:=g89
     rw [← hwe] at t2 t3
     refine QA (QE rfl)<|QF<|QC<|QG<|QB<|QA (QE rfl)<|QF<|QC<|QG<|QG<|QB<|QA (QE rfl)<|QF<|QC<|Qa<|J0 (ι:=gQ i2.U l55 (i2.k - 1) t89) [(8,_),(9,_),(10,_),(11,_),(12,_),(13,_),(14,_)] (fun i3=>[(15,.int .i64 (i3.br)),(16,.int .i64 ((i3.i:Nat):Int))]) (fun i3=>[(bu,.cells (i3.U'.map Q3++rest).toArray 3 (0,0)),(bq,.cells (i2.Q.map Q3).toArray 3 (0,0))]) (fun i3 F=>True) (fun i3=>l55.length - i3.i) (⟨0,i2.U,0,Nat.zero_le _,Pl.start (by decide) i2.du _ _⟩) ⟨rfl,rfl,rfl,rfl,rfl,rfl,rfl,trivial⟩ ⟨rfl,rfl,trivial⟩ (List.Sublist.refl _) (fun _ _=>trivial) (fun i3=>?_)
     simp only [List.cons_append,List.nil_append]
     have hle3:=i3.le
     have lU3:=i3.h.len
     have gH:=i3.h.gH
     have vZ:=i3.h.vZ
     rw [h9] at vZ
     refine QG<|QG<|QB<|QA (QD rfl)<|QA (QD rfl)<|QA (QU rfl rfl rfl)<|QF<|QC ?_
     refine QQ rfl (fun hc=>?_) (fun hc=>?_)
     ·
      have hi3:i3.i<m+2:=by have:=of_decide_eq_true hc;omega
      have bd:=qx B1 ⟨t0,t1⟩ (d55.Qf JE i3.i) ⟨i3.h.gH,i3.h.vZ⟩
      simp only [h9] at bd
      have bu3:=i3.h.dg.Qf JE ((i2.k - 1)+i3.i)
      rw [h9] at bu3
      have hd3:Qf i3.U' ((i2.k - 1)+i3.i)=Qf i2.U ((i2.k - 1)+i3.i):=ZX i3.h.hi (Nat.le_refl _)
      refine QP<|QC<|QG<|Qa<|QG<|QB<|QA (QD rfl)<|QA (QD rfl)<|QA (QD rfl)<|QA (JY (n:=(m+2)) (i3.i) (fun F ⟨⟨⟨⟨⟨⟨⟨⟨⟨hA,hB⟩,_⟩,hs52⟩,⟨h55,h55p⟩⟩,⟨h61,h61p⟩⟩,_⟩,_⟩,hg89⟩,_⟩=>(h55).1) rfl rfl Qe Qp (by omega))<|QA (Jf (n:=(m+2)) ((i3.i)*1) (fun F ⟨⟨⟨⟨⟨⟨⟨⟨⟨hA,hB⟩,_⟩,hs52⟩,⟨h55,h55p⟩⟩,⟨h61,h61p⟩⟩,_⟩,_⟩,hg89⟩,_⟩=>(h55).1) (by omega) rfl Qp (JL (o:=l55) (by omega)))<|QA (WI rfl rfl (by omega))<|QA (QD rfl)<|QA (Qu rfl rfl (by omega))<|QA (QE rfl)<|QF<|QC<|QG<|QB<|QA (QD rfl)<|QA (QD rfl)<|QA (QD rfl)<|QA (Qu rfl rfl (by omega))<|QA (Qx (i:=(i2.k - 1)+i3.i) rfl (congrArg (fun z:Int=>some (Value.int .i64 z)) (by omega)) Qe Qp (by omega))<|QA (Ya (c:=(i3.U').map Q3++rest) (T':=3) rfl Qp .here (Zo (by first | omega | (simp only [List.length_set];omega)))) ?_
      refine QA (QD rfl)<|QA (KH rfl rfl (by omega) (by omega))<|QA (Jx rfl rfl (by omega))<|QA (QE rfl)<|QF<|QC<|QG<|QB<|QA (QD rfl)<|QA (V8 rfl rfl (by omega) (by omega) (by omega))<|QA (QE rfl)<|QF<|QC<|QG<|QG<|QB<|QA (QD rfl)<|QA (QU rfl rfl rfl)<|QF<|QC ?_
      refine QQ rfl (fun hc=>?_) (fun hc=>?_)
      ·
       have hx:=of_decide_eq_true hc
       refine QG<|QB<|QA (QD rfl)<|QA (Qu rfl rfl (by omega))<|QA (QE rfl)<|QF<|QC<|QB<|QA (QD rfl)<|QA (Qu rfl rfl (by omega))<|QA (QE rfl)<|QF<|QC<|QB<|QA (QD rfl)<|QA (QD rfl)<|QA (QD rfl)<|QA (Qu rfl rfl (by omega))<|QA (QD rfl)<|QA (Qx (i:=(i2.k - 1)+i3.i) rfl (congrArg (fun z:Int=>some (Value.int .i64 z)) (by omega)) Qe Qp (by omega))<|QS (vs:=[_]) rfl rfl rfl Qp rfl .here (VT (by first | omega | (simp only [List.length_set];omega)) (((Qf (i3.U') ((i2.k - 1)+i3.i) - (((t89*Qf l55 (i3.i))+i3.br)%1000000000))+1000000000))) ⟨rfl,trivial⟩<|QF<|Ql<|QC<|QB ?_
       refine QA (QD rfl)<|QA (Qu rfl rfl (by omega))<|QA (QE rfl)<|QF ?_
       exact Qo (⟨i3.i+1,((i3.U').set ((i2.k - 1)+i3.i) (((Qf (i3.U') ((i2.k - 1)+i3.i) - (((t89*Qf l55 (i3.i))+i3.br)%1000000000))+1000000000))),((((t89*Qf l55 (i3.i))+i3.br) / 1000000000)+1),by omega,i3.h.step (by omega) (by rw [h9];omega) (by rw [h9];omega) (by rw [h9,← hd3];omega)⟩) (by show l55.length - (i3.i+1)<l55.length - i3.i;omega) ⟨rfl,rfl,rfl,rfl,rfl,rfl,rfl,rfl,rfl,trivial⟩ (List.Sublist.refl _) (fun F h=>⟨h.1,trivial⟩)
      ·
       have hx:=of_decide_eq_false hc
       refine QP<|QC<|QB<|QA (QD rfl)<|QA (QD rfl)<|QA (QD rfl)<|QA (Qu rfl rfl (by omega))<|QA (QD rfl)<|QA (Qx (i:=(i2.k - 1)+i3.i) rfl (congrArg (fun z:Int=>some (Value.int .i64 z)) (by omega)) Qe Qp (by omega))<|QS (vs:=[_]) rfl rfl rfl Qp rfl .here (VT (by first | omega | (simp only [List.length_set];omega)) ((Qf (i3.U') ((i2.k - 1)+i3.i) - (((t89*Qf l55 (i3.i))+i3.br)%1000000000)))) ⟨rfl,trivial⟩<|QF<|Ql<|QC<|QB<|QA (QD rfl)<|QA (Qu rfl rfl (by omega))<|QA (QE rfl)<|QF ?_
       exact Qo (⟨i3.i+1,((i3.U').set ((i2.k - 1)+i3.i) ((Qf (i3.U') ((i2.k - 1)+i3.i) - (((t89*Qf l55 (i3.i))+i3.br)%1000000000)))),(((t89*Qf l55 (i3.i))+i3.br) / 1000000000),by omega,i3.h.step (by omega) (by rw [h9];omega) (by rw [h9];omega) (by rw [h9,← hd3];omega)⟩) (by show l55.length - (i3.i+1)<l55.length - i3.i;omega) ⟨rfl,rfl,rfl,rfl,rfl,rfl,rfl,rfl,rfl,trivial⟩ (List.Sublist.refl _) (fun F h=>⟨h.1,trivial⟩)
     ·
      have hi3:i3.i=m+2:=by have:=of_decide_eq_false hc;omega
      refine Q5 ?_
      repeat (first | refine Qc ?_ | refine QX (by rfl) ?_)
      refine Qd<|QC<|QG ?_
      have hs3:Pl B9 i2.U l55 (i2.k - 1) t89 (m+2) i3.U' i3.br:=by have:=i3.h;rw [hi3] at this;exact this
      have hd3:Qf i3.U' ((i2.k - 1)+(m+2))=Qf i2.U ((i2.k - 1)+(m+2)):=ZX hs3.hi (Nat.le_refl _)
      have hS:=hs3.stop B1 l55l (by omega)
      rw [← hd3] at hS
      have bu4:=i2.du.Qf JE ((i2.k - 1)+(m+2))
      rw [h9,← hd3] at bu4
      have htp:=hS.tp
      have hz1:dv B9 (i2.U.drop ((i2.k - 1)+(m+2)+1))=0:=by rw [show(i2.k - 1)+(m+2)+1=i2.k+(m+2) by omega];exact hz0
      refine QB<|QA (QD rfl)<|QA (QD rfl)<|QA (QD rfl)<|QA (Qu rfl rfl (by omega))<|QA (QD rfl)<|QA (QD rfl)<|QA (QD rfl)<|QA (Qu rfl rfl (by omega))<|QA (Qx (i:=(i2.k - 1)+(m+2)) rfl (congrArg (fun z:Int=>some (Value.int .i64 z)) (by omega)) Qe Qp (by omega))<|QA (Ya (c:=(i3.U').map Q3++rest) (T':=3) rfl Qp .here (Zo (by first | omega | (simp only [List.length_set];omega))))<|QA (QD rfl)<|QA (Jx rfl rfl (by omega))<|QA (Qx (i:=(i2.k - 1)+(m+2)) rfl (congrArg (fun z:Int=>some (Value.int .i64 z)) (by omega)) Qe Qp (by omega))<|QS (vs:=[_]) rfl rfl rfl Qp rfl .here (VT (by first | omega | (simp only [List.length_set];omega)) ((Qf (i3.U') ((i2.k - 1)+(m+2)) - i3.br))) ⟨rfl,trivial⟩<|QF<|QC<|QG<|QG<|QB<|QA (QD rfl)<|QA (QD rfl)<|QA (QD rfl)<|QA (Qu rfl rfl (by omega))<|QA (Qx (i:=(i2.k - 1)+(m+2)) rfl (congrArg (fun z:Int=>some (Value.int .i64 z)) (by omega)) Qe Qp (by omega)) ?_
      refine QA (Ya (c:=(((i3.U').set ((i2.k - 1)+(m+2)) ((Qf (i3.U') ((i2.k - 1)+(m+2)) - i3.br)))).map Q3++rest) (T':=3) rfl Qp .here (Zo (by first | omega | (simp only [List.length_set];omega))))<|QA (QU rfl rfl rfl)<|QF<|QC ?_
      refine QQ rfl (fun hc=>?_) (fun hc=>?_)
      ·
       have hneg:Qf i3.U' ((i2.k - 1)+(m+2)) - i3.br<0:=by have:=of_decide_eq_true hc;rw [htp] at this;exact this
       refine QG<|QB<|QA (QD rfl)<|QA (Jx rfl rfl (by omega))<|QA (QE rfl)<|QF<|QC<|QG<|QB<|QA (QE rfl)<|QF<|QC<|QG<|QG<|QB<|QA (QE rfl)<|QF<|QC<|Qa<|J0 (ι:=gq (i3.U'.set ((i2.k - 1)+(m+2)) (Qf i3.U' ((i2.k - 1)+(m+2)) - i3.br)) l55 (i2.k - 1) (m+2)) [(8,_),(9,_),(10,_),(11,_),(12,_),(13,_),(14,_)] (fun i4=>[(19,.int .i64 (i4.c)),(20,.int .i64 ((i4.i:Nat):Int))]) (fun i4=>[(bu,.cells (i4.U'.map Q3++rest).toArray 3 (0,0)),(bq,.cells (i2.Q.map Q3).toArray 3 (0,0))]) (fun i4 F=>True) (fun i4=>m+2 - i4.i) (⟨0,_,0,Nat.zero_le _,DY.start hS.dg⟩) ⟨rfl,rfl,rfl,rfl,rfl,rfl,rfl,trivial⟩ ⟨rfl,rfl,trivial⟩ (List.Sublist.refl _) (fun _ _=>trivial) (fun i4=>?_)
       simp only [List.cons_append,List.nil_append]
       have hle4:=i4.le
       have lU4:=i4.h.len
       rw [List.length_set] at lU4
       have c40:=i4.h.c0
       have c41:=i4.h.c1
       refine QG<|QG<|QB<|QA (QD rfl)<|QA (QD rfl)<|QA (QU rfl rfl rfl)<|QF<|QC ?_
       refine QQ rfl (fun hc=>?_) (fun hc=>?_)
       ·
        have hi4:i4.i<m+2:=by have:=of_decide_eq_true hc;omega
        have bu5:=i4.h.Qf B1 hi4
        have bv5:=d55.Qf JE i4.i
        rw [h9] at bu5 bv5
        have hd4:=ZX i4.h.hi (Nat.le_refl _)
        refine QP<|QC<|QG<|Qa<|QG<|JG (List.Sublist.refl _) mixed (by kernel_rfl)<|QK (QD rfl)<|QK (QD rfl)<|QK (QD rfl)<|QK (Qu rfl rfl (by omega))<|QK (Qx (i:=(i2.k - 1)+i4.i) rfl (congrArg (fun z:Int=>some (Value.int .i64 z)) (by omega)) Qe Qp (by omega))<|QK (Ya (c:=(i4.U').map Q3++rest) (T':=3) rfl Qp .here (Zo (by first | omega | (simp only [List.length_set];omega))))<|QK (QD rfl)<|QK (QD rfl)<|QK (JY (n:=(m+2)) (i4.i) (fun F ⟨⟨⟨⟨⟨⟨⟨⟨⟨⟨hA,hB⟩,_⟩,hs52⟩,⟨h55,h55p⟩⟩,⟨h61,h61p⟩⟩,_⟩,_⟩,hg89⟩,_⟩,_⟩=>(h55).1) rfl rfl Qe Qp (by omega))<|QK (Jf (n:=(m+2)) ((i4.i)*1) (fun F ⟨⟨⟨⟨⟨⟨⟨⟨⟨⟨hA,hB⟩,_⟩,hs52⟩,⟨h55,h55p⟩⟩,⟨h61,h61p⟩⟩,_⟩,_⟩,hg89⟩,_⟩,_⟩=>(h55).1) (by omega) rfl Qp (JL (o:=l55) (by omega)))<|QK (Qu rfl rfl (by omega))<|QK (QD rfl)<|QK (Qu rfl rfl (by omega))<|QK (QE rfl)<|Q2<|QC<|QG<|QB<|QA (QD rfl) ?_
        refine QA (QD rfl)<|QA (QD rfl)<|QA (Qu rfl rfl (by omega))<|QA (QD rfl)<|QA (KH rfl rfl (by omega) (by omega))<|QA (Qx (i:=(i2.k - 1)+i4.i) rfl (congrArg (fun z:Int=>some (Value.int .i64 z)) (by omega)) Qe Qp (by omega))<|QS (vs:=[_]) rfl rfl rfl Qp rfl .here (VT (by first | omega | (simp only [List.length_set];omega)) ((((Qf (i4.U') ((i2.k - 1)+i4.i)+Qf l55 (i4.i))+i4.c)%1000000000))) ⟨rfl,trivial⟩<|QF<|QC<|QB<|QA (QD rfl)<|QA (V8 rfl rfl (by omega) (by omega) (by omega))<|QA (QE rfl)<|QF<|Ql<|QC<|QB<|QA (QD rfl)<|QA (Qu rfl rfl (by omega))<|QA (QE rfl)<|QF ?_
        exact Qo (⟨i4.i+1,((i4.U').set ((i2.k - 1)+i4.i) ((((Qf (i4.U') ((i2.k - 1)+i4.i)+Qf l55 (i4.i))+i4.c)%1000000000))),(((Qf (i4.U') ((i2.k - 1)+i4.i)+Qf l55 (i4.i))+i4.c) / 1000000000),by omega,i4.h.step hi4 (by rw [List.length_set];omega) (by rw [h9];omega) (by omega) (by rw [h9,← hd4];omega)⟩) (by show m+2 - (i4.i+1)<m+2 - i4.i;omega) ⟨rfl,rfl,rfl,rfl,rfl,rfl,rfl,rfl,rfl,trivial⟩ (List.Sublist.refl _) (fun F h=>⟨h.1,trivial⟩)
       ·
        have hi4:i4.i=m+2:=by have:=of_decide_eq_false hc;omega
        refine Q5 ?_
        repeat (first | refine Qc ?_ | refine QX (by rfl) ?_)
        refine Qd<|QC ?_
        have hA4:DY B9 (i3.U'.set ((i2.k - 1)+(m+2)) (Qf i3.U' ((i2.k - 1)+(m+2)) - i3.br)) l55 (i2.k - 1) (m+2) (m+2) i4.U' i4.c:=by have:=i4.h;rw [hi4] at this;exact this
        have hd5:Qf i4.U' ((i2.k - 1)+(m+2))=Qf i3.U' ((i2.k - 1)+(m+2)) - i3.br:=by rw [ZX hA4.hi (Nat.le_refl _)];exact htp
        have hS5:S4 B9 i2.U l55 (i2.k - 1) (m+2) t89 (i3.U'.set ((i2.k - 1)+(m+2)) (Qf i3.U' ((i2.k - 1)+(m+2)) - i3.br)) (Qf i4.U' ((i2.k - 1)+(m+2))):=by rw [hd5];exact hS
        obtain ⟨g1,g2,g3,g4,g5⟩:=hA4.yZ B1 hS5 i2.du d55 l55l hz1 (by omega) (by rw [hd5];exact hneg) t2
        have lU4:=i4.h.len
        rw [List.length_set] at lU4
        have b5:Qf i4.U' ((i2.k - 1)+(m+2))=Qf i3.U' ((i2.k - 1)+(m+2)) - i3.br:=hd5
        refine QB<|QA (QD rfl)<|QA (QD rfl)<|QA (QD rfl)<|QA (Qu rfl rfl (by omega))<|QA (QD rfl)<|QA (QD rfl)<|QA (QD rfl)<|QA (Qu rfl rfl (by omega))<|QA (Qx (i:=(i2.k - 1)+(m+2)) rfl (congrArg (fun z:Int=>some (Value.int .i64 z)) (by omega)) Qe Qp (by omega))<|QA (Ya (c:=(i4.U').map Q3++rest) (T':=3) rfl Qp .here (Zo (by first | omega | (simp only [List.length_set];omega))))<|QA (QD rfl)<|QA (Qu rfl rfl (by omega))<|QA (Qx (i:=(i2.k - 1)+(m+2)) rfl (congrArg (fun z:Int=>some (Value.int .i64 z)) (by omega)) Qe Qp (by omega))<|QS (vs:=[_]) rfl rfl rfl Qp rfl .here (VT (by first | omega | (simp only [List.length_set];omega)) ((Qf (i4.U') ((i2.k - 1)+(m+2))+i4.c))) ⟨rfl,trivial⟩<|QF<|QC<|QB<|QA (QD rfl)<|QA (QD rfl)<|QA (QD rfl)<|QA (Qx (i:=(i2.k - 1)) rfl (congrArg (fun z:Int=>some (Value.int .i64 z)) (by omega)) Qe Qp (by omega))<|QS (vs:=[_]) rfl rfl rfl Qp rfl (.there .here) (Gq (by first | omega | (simp only [List.length_set];omega)) ((t89 - 1))) ⟨rfl,trivial⟩<|QF<|Ql ?_
        refine QC<|QB<|QA (QD rfl)<|QA (Jx rfl rfl (by omega))<|QA (QE rfl)<|QF ?_
        exact Qo (i2.next hk0 (by omega) (t:=t89 - 1) g4 (by omega) g1 g2 g3 g5) (by show i2.k - 1<i2.k;omega) ⟨rfl,rfl,rfl,rfl,rfl,rfl,trivial⟩ (List.Sublist.refl _) (fun F h=>⟨h.1.1.1.1,trivial⟩)
      ·
       have hneg:0≤Qf i3.U' ((i2.k - 1)+(m+2)) - i3.br:=by have:=of_decide_eq_false hc;rw [htp] at this;omega
       obtain ⟨g1,g2,g3⟩:=hS.yZ B1 (by omega) hneg (by rw [h9];omega) t3
       refine QP<|QC<|QB<|QA (QD rfl)<|QA (QD rfl)<|QA (QD rfl)<|QA (Qx (i:=(i2.k - 1)) rfl (congrArg (fun z:Int=>some (Value.int .i64 z)) (by omega)) Qe Qp (by omega))<|QS (vs:=[_]) rfl rfl rfl Qp rfl (.there .here) (Gq (by first | omega | (simp only [List.length_set];omega)) (t89)) ⟨rfl,trivial⟩<|QF<|Ql<|QC<|QB<|QA (QD rfl)<|QA (Jx rfl rfl (by omega))<|QA (QE rfl)<|QF ?_
       exact Qo (i2.next hk0 (by omega) (t:=t89) t0 t1 g1 g2 g3 hS.len) (by show i2.k - 1<i2.k;omega) ⟨rfl,rfl,rfl,rfl,rfl,rfl,trivial⟩ (List.Sublist.refl _) (fun F h=>⟨h.1.1.1,trivial⟩)
    ·
     have hk0:i2.k=0:=by have:=of_decide_eq_false hc;omega
     refine Q5 ?_
     repeat (first | refine Qc ?_ | refine QX (by rfl) ?_)
     refine Qd<|QC<|QG ?_
     obtain ⟨s1,s2⟩:=i2.stop hk0 db da e55 f2 hb d55 l55l
     have lt40:=Xk (i2.U.take (m+2))
     rw [List.length_take] at lt40
     refine PJ (b:=bu) .here<|PJ (b:=bq) .here<|JG (List.Sublist.refl _) mixed (by kernel_rfl)<|QK (QD rfl)<|QK (QD rfl)<|QK (O0 (m+2) rfl rfl rfl Qe Qp (by omega))<|QY rfl (fun w F hF ⟨⟨⟨⟨⟨⟨⟨⟨⟨hA,hB⟩,_⟩,hs52⟩,⟨h55,h55p⟩⟩,⟨h61,h61p⟩⟩,_⟩,_⟩,hu40⟩,hq40⟩=>WW hF (r:=⟨some ⟨bu,0,none⟩,m+2,cu⟩) ((JP.own hu40 i2.lu hcu).take (by omega)) (by rw [List.length_take];omega)) (fun c196=>QK (QD rfl)<|QK (JY (n:=1) (0) (fun F ⟨⟨⟨⟨⟨⟨⟨⟨⟨hA,hB⟩,_⟩,hs52⟩,⟨h55,h55p⟩⟩,⟨h61,h61p⟩⟩,_⟩,_⟩,hu40⟩,hq40⟩=>(JB.of (n:=1) (sz:=1) hs52 rfl)) rfl (congrArg (fun z:Int=>some (Value.int .i64 z)) (by omega)) Qe Qp (by omega))<|QK (Jf (n:=1) ((0)*1) (fun F ⟨⟨⟨⟨⟨⟨⟨⟨⟨hA,hB⟩,_⟩,hs52⟩,⟨h55,h55p⟩⟩,⟨h61,h61p⟩⟩,_⟩,_⟩,hu40⟩,hq40⟩=>(JB.of (n:=1) (sz:=1) hs52 rfl)) (by omega) rfl Qp rfl)<|QY rfl (fun w F hF ⟨⟨⟨⟨⟨⟨⟨⟨⟨⟨hA,hB⟩,_⟩,hs52⟩,⟨h55,h55p⟩⟩,⟨h61,h61p⟩⟩,_⟩,_⟩,hu40⟩,hq40⟩,h196⟩=>EO hF (a:=Q6 (i2.U.take (m+2))) (ra:=⟨some ⟨bu,0,none⟩,(Q6 (i2.U.take (m+2))).length,cu⟩) h196 ((i2.du.take _).Q6) (by omega) (f2) (f3)) (fun c200=>QK (QD rfl)<|QK (QM rfl rfl)<|QK (QM rfl rfl)<|QK (QE rfl)<|QK (QE rfl)<|Q2<|QC<|QG<|QB<|QA (QD rfl)<|QH rfl (fun w F hF ⟨⟨⟨⟨⟨⟨⟨⟨⟨⟨⟨hA,hB⟩,_⟩,hs52⟩,⟨h55,h55p⟩⟩,⟨h61,h61p⟩⟩,_⟩,_⟩,hu40⟩,hq40⟩,h196⟩,h200⟩=>WW hF (r:=⟨some ⟨bq,0,none⟩,a.length+1 - (m+2),a.length+1 - (m+2)⟩) (JP.vt hq40 i2.lq (Nat.le_refl _)) (by omega)) (fun c204=>QA (QD rfl)<|QA (QE rfl)<|QA (QE rfl) ?_)))
     refine QF<|QC<|QR ?_
     exact Jb (((⟨some ⟨bq,0,none⟩,(Q6 i2.Q).length,a.length+1 - (m+2)⟩,Q6 i2.Q),(c200.1.1,c200.1.2)):(Sr×List Int)×(Sr×List Int)) rfl (.tmp rfl (.tmp rfl .nil)) (rfl) (fun F ⟨⟨⟨⟨⟨⟨⟨⟨⟨⟨⟨⟨hA,hB⟩,_⟩,hs52⟩,⟨h55,h55p⟩⟩,⟨h61,h61p⟩⟩,_⟩,_⟩,hu40⟩,hq40⟩,h196⟩,h200⟩,h204⟩=>⟨⟨h204,i2.dq.Q6,Xi _,by show dv B9 (Q6 i2.Q)=_;rw [XA];exact s1⟩,h200.1,h200.2.1,h200.2.2.1,Ox (by omega) (by rw [← s2,← XA];exact h200.2.2.2.2.2.1) h200.2.2.2.1 h200.2.2.2.2.1⟩)
end
section
open Go.RowKit Ig
section
variable {P:Program} {N:Nat} {m:Sl} {S:World→Prop} {ty:TypeId}
def Rh (P:Program) (T:TypeId):Bool:=match P.underlying T with
 |some .bool=>true
 |_=>false
theorem xP {T:TypeId} (h:Rh P T=true):P.underlying T=some .bool:=by
 unfold Rh at h;split at h
 ·assumption
 ·cases h
theorem M8 {T:TypeId} (hT:Rh P T=true) (a b:Bool) (w:World):(Op.equal T (.bool a) (.bool b)).run P w = .ok (a==b) w:=by
 have e:∃ n,Op.maxDepth=n+1:=⟨Op.maxDepth - 1,by decide⟩
 obtain ⟨n,e⟩:=e
 unfold Op.equal
 rw [e]
 unfold Op.equalIn
 simp [run_underlying (xP hT)]
theorem z6 {T yT:TypeId} {x y:Operand} {a b:Bool} (hT:Rh P T=true) (hx:ev m x=some (.bool a)) (hy:ev m y=some (.bool b)):Qt P N m S (.binOp .eql T x y yT) ty (.bool (a==b)):=fun s w _ _ _ _ ha _=>by
 simp only [execOp,ha.ev hx,ha.ev hy,eqGuard,binOp,Sem.run_bind,Sem.run_pure,Result.andThen_ok,M8 hT]
 rfl
theorem zz {T yT:TypeId} {x y:Operand} {a b:Bool} (hT:Rh P T=true) (hx:ev m x=some (.bool a)) (hy:ev m y=some (.bool b)):Qt P N m S (.binOp .neq T x y yT) ty (.bool (!(a==b))):=fun s w _ _ _ _ ha _=>by
 simp only [execOp,ha.ev hx,ha.ev hy,eqGuard,binOp,Sem.run_bind,Sem.run_pure,Result.andThen_ok,M8 hT]
 rfl
end
structure Ri where
 neg:Bool
 r:Sr
 l:List Int
@[reducible] def Ri.v (x:Ri):Value:=.agg #[.bool x.neg,.slice x.r.q x.r.n x.r.cap]
def W2 (neg:Bool) (l:List Int):Int:=if neg=true then -dv B9 l else dv B9 l
def YW (F:Gs) (x:Ri) (z:Int):Prop:=JP F x.r x.l∧DG B9 x.l∧NZ x.l∧z=W2 x.neg x.l∧(x.neg=true→0<dv B9 x.l)
theorem YW.le {F F':Gs} {x:Ri} {z:Int} (h:YW F x z) (k:Gs.le F F'):YW F' x z:=⟨h.1.le k,h.2⟩
abbrev Wx (P:Program) (f:FuncId) (args:List Value) (w:World) (F:Gs) (z:Int):Prop:=QT P f args w F Ri.v (fun x F=>YW F x z)
structure Vk (neg:Bool) (l:List Int) (z:Int):Prop where
 dg:DG B9 l
 nz:NZ l
 e:z=W2 neg l
 ng:neg=true→0<dv B9 l
theorem YW.p {F:Gs} {x:Ri} {z:Int} (h:YW F x z):Vk x.neg x.l z:=⟨h.2.1,h.2.2.1,h.2.2.2.1,h.2.2.2.2⟩
theorem Vk.v0 {neg:Bool} {l:List Int} {z:Int} (h:Vk neg l z):0≤dv B9 l:=Qw JE h.dg
theorem Vk.abs {neg:Bool} {l:List Int} {z:Int} (h:Vk neg l z):(z.natAbs:Int)=dv B9 l:=by
 have:=h.v0
 rw [h.e,W2];split<;>omega
theorem gB {l:List Int} (h:DG B9 l) (z:NZ l):l.length≤sz (dv B9 l):=by
 rcases Nat.eq_zero_or_pos l.length with g | g
 ·omega
 ·have h1:=DA JE h z (by intro e;rw [e] at g;simp at g)
  have h2:=Hd (dv B9 l)
  have h3:=Qw JE h
  rcases Nat.lt_or_ge (sz (dv B9 l)) l.length with q | q
  ·exfalso
   have h4:(2:Int)^(l.length - 1)≤B9^(l.length - 1):=by
    have:∀ n:Nat,(2:Int)^n≤B9^n:=by
     intro n
     induction n with
     |zero=>simp
     |succ n ih =>
      rw [Int.pow_succ,Int.pow_succ]
      exact Int.mul_le_mul ih (by decide) (by decide) (Int.le_of_lt (pow_pos JE n))
    exact this _
   have h5:(2:Int)^sz (dv B9 l)≤2^(l.length - 1):=KW (by decide) (by omega)
   have h6:((dv B9 l).natAbs:Int)<((2^sz (dv B9 l):Nat):Int):=Int.ofNat_lt.2 h2
   rw [Int.natCast_pow] at h6
   have:((2:Nat):Int)=2:=rfl
   rw [this] at h6
   omega
  ·exact q
theorem Vk.len {neg:Bool} {l:List Int} {z:Int} (h:Vk neg l z):l.length≤sz z:=by
 have:=gB h.dg h.nz
 have e:sz (dv B9 l)=sz z:=by
  rw [← h.abs];unfold sz;simp
 omega
theorem Vk.neg {neg:Bool} {l:List Int} {z:Int} (h:Vk neg l z):neg=decide (z<0):=by
 have h0:=h.v0
 cases neg with
 |true=>have:=h.ng rfl;have e:=h.e;simp only [W2,if_true] at e;symm;rw [decide_eq_true_eq];omega
 |false=>have e:=h.e;simp only [W2] at e;symm;rw [decide_eq_false_iff_not];simp at e;omega
theorem Vk.zero {neg:Bool} {l:List Int} {z:Int} (h:Vk neg l z):l=[]↔z=0:=by
 have:=Yf B1 h.dg h.nz
 have e:=h.abs
 rw [← this];omega
theorem OO {l:List Int} (h:DG B9 l):(0<(Q6 l).length)↔0<dv B9 l:=by
 have h1:=Yf B1 h.Q6 (Xi l)
 rw [XA] at h1
 have h2:=Qw JE h
 rw [← List.length_eq_zero_iff] at h1
 omega
theorem X2 {w:World} {F:Gs} {r:Sr} {l:List Int} {neg:Bool} (hF:Fits F w) (hR:JP F r l) (dg:DG B9 l) (hl:l.length≤1000000000):Wx Tryz.prog 233 [.bool neg,r.v] w F (W2 neg l):=by
 obtain ⟨q,n,c⟩:=r
 have hn:=hR.2.1
 dsimp only [Sr.v] at hn ⊢
 have hlz:=Xk l
 have htp:=OO dg
 have hv0:=Qw JE dg
 refine QT.intro (G:=fun F=>JP F ⟨q,n,c⟩ l) Tryz.func233 rfl (by rfl) rfl rfl hF (fun F' hF'=>hR.le hF')<|QG<|QB<|QZ Xf (fun b4=>QF<|QC<|QG<|QB<|QA (QD rfl)<|QH rfl (fun w F hF hR=>WW hF (r:=⟨q,n,c⟩) hR (hl)) (fun c6=>QA (QE rfl)<|QF<|QC<|QG<|QB<|QA (QD rfl)<|QA (QD rfl) ?_))
 refine Qk (t:=8) rfl (fun hb8=>?_) (fun hb8=>?_)
 ·
  refine QL rfl rfl<|QA (QD rfl)<|QL rfl rfl<|QA (Qn rfl Qe)<|QL rfl rfl<|QA (QU rfl rfl rfl)<|QA (Qj rfl rfl rfl)<|QA (QD rfl)<|QA (Q4 rfl CK Xf (.cons (vs:=[_]) rfl rfl rfl (.here .nil) (.cons (vs:=[_]) rfl rfl rfl (.skip (.here .nil)) .nil)))<|QS (vs:=[_,_]) rfl rfl rfl Qv rfl .here (.here (.here .nil)) ⟨rfl,rfl,trivial⟩<|QF<|QC<|QR ?_
  exact QN ((⟨decide ((((Q6 l).length:Nat):Int)>0),⟨q,(Q6 l).length,c⟩,Q6 l⟩:Ri)) rfl (.JX (c:=[_,_]) rfl Qv .here .nil) (rfl) (fun F ⟨hR,h6⟩=>⟨h6,dg.Q6,Xi _,by show W2 neg l=W2 (decide ((((Q6 l).length:Nat):Int)>0)) (Q6 l);rw [W2,W2,XA];cases neg<;>simp_all<;>omega,fun hh=>by show 0<dv B9 (Q6 l);rw [XA];simp_all⟩)
 ·
  refine QO rfl rfl rfl<|QO rfl rfl rfl<|QO rfl rfl rfl<|QA (Qh rfl rfl rfl)<|QA (QD rfl)<|QA (Q4 rfl CK Xf (.cons (vs:=[_]) rfl rfl rfl (.here .nil) (.cons (vs:=[_]) rfl rfl rfl (.skip (.here .nil)) .nil)))<|QS (vs:=[_,_]) rfl rfl rfl Qv rfl .here (.here (.here .nil)) ⟨rfl,rfl,trivial⟩<|QF<|QC<|QR ?_
  exact QN ((⟨false,⟨q,(Q6 l).length,c⟩,Q6 l⟩:Ri)) rfl (.JX (c:=[_,_]) rfl Qv .here .nil) (rfl) (fun F ⟨hR,h6⟩=>⟨h6,dg.Q6,Xi _,by show W2 neg l=W2 false (Q6 l);rw [W2,W2,XA];cases neg<;>simp_all<;>omega,fun hh=>by show 0<dv B9 (Q6 l);rw [XA];simp_all⟩)
theorem IW:Rh Tryz.prog 4=true:=by kernel_rfl
theorem xN {x y:Int} (h:ZS x y≥0):y≤x:=by
 unfold ZS at h;split at h
 ·omega
 ·split at h<;>omega
theorem qN {x y:Int} (h:¬ ZS x y≥0):x≤y:=by
 unfold ZS at h;split at h
 ·omega
 ·split at h<;>omega
theorem Lj {a b:Int} (hb:0<b):(-a) / b=if 0<a%b then -(a / b+1) else -(a / b):=by
 have h1:=Int.emod_add_mul_ediv a b
 have h2:=Int.emod_nonneg a (Int.ne_of_gt hb)
 have h3:=Int.emod_lt_of_pos a hb
 split
 ·refine X3 hb ?_ ?_
  ·rw [Int.neg_mul,Int.add_mul,Int.one_mul,Int.mul_comm (a / b)];omega
  ·rw [Int.add_mul,Int.one_mul,Int.neg_mul,Int.add_mul,Int.one_mul,Int.mul_comm (a / b)];omega
 ·refine X3 hb ?_ ?_
  ·rw [Int.neg_mul,Int.mul_comm (a / b)];omega
  ·rw [Int.add_mul,Int.one_mul,Int.neg_mul,Int.mul_comm (a / b)];omega
theorem Tn {w:World} {F:Gs} {x:Ri} {zx:Int} (hF:Fits F w) (hx:YW F x zx) (hz:sz zx≤1000000):Wx Tryz.prog 179 [x.v] w F (-zx):=by
 obtain ⟨xn,⟨xq,xm,xc⟩,xl⟩:=x
 have px:=hx.p
 have lx:=px.len
 have kx:=hx.1.2.1
 have vx:=px.v0
 dsimp only at px lx kx vx
 dsimp only [Ri.v]
 have eqn : -zx=W2 (!xn) xl:=by rw [px.e];cases xn<;>simp [W2]
 refine QT.intro (G:=fun F=>YW F ⟨xn,⟨xq,xm,xc⟩,xl⟩ zx) Tryz.func179 rfl (by rfl) rfl rfl hF (fun F' hF'=>hx.le hF')<|QG<|QB<|Qz rfl (vs:=[_,_]) rfl (fun b1=>QZ Xf (fun b2=>QF<|QC<|QG<|QB<|QA (QI rfl Zd Yu)<|QA (Qi rfl Yu (.there .here) (.here .nil))<|QA (YV rfl)<|QA (QI rfl XM Qs)<|QA (Qi rfl Qs (.there .here) (.skip (.here .nil)))<|QH rfl (fun w F hF hx=>X2 hF (r:=⟨xq,xm,xc⟩) (l:=xl) (neg:=!xn) hx.1 (px.dg) (by omega)) (fun c8=>QS (vs:=[_,_]) rfl rfl rfl Qv rfl .here (.here (.here .nil)) ⟨rfl,rfl,trivial⟩<|QF<|QC<|QR ?_)))
 exact QN (c8) rfl (.JX (c:=[_,_]) rfl Qv .here .nil) (rfl) (fun F ⟨hx,h8⟩=>(by rw [eqn];exact h8))
theorem YT {w:World} {F:Gs} {x y:Ri} {zx zy:Int} (hF:Fits F w) (hx:YW F x zx) (hy:YW F y zy) (hzx:sz zx≤1000000) (hzy:sz zy≤1000000):Wx Tryz.prog 178 [x.v,y.v] w F (zx*zy):=by
 obtain ⟨xn,⟨xq,xm,xc⟩,xl⟩:=x
 have px:=hx.p
 have lx:=px.len
 have kx:=hx.1.2.1
 have vx:=px.v0
 dsimp only at px lx kx vx
 obtain ⟨yn,⟨yq,ym,yc⟩,yl⟩:=y
 have py:=hy.p
 have ly:=py.len
 have ky:=hy.1.2.1
 have vy:=py.v0
 dsimp only at py ly ky vy
 dsimp only [Ri.v]
 refine QT.intro (G:=fun F=>YW F ⟨xn,⟨xq,xm,xc⟩,xl⟩ zx∧YW F ⟨yn,⟨yq,ym,yc⟩,yl⟩ zy) Tryz.func178 rfl (by rfl) rfl rfl hF (fun F' hF'=>⟨hx.le hF',hy.le hF'⟩)<|QG<|QB<|Qz rfl (vs:=[_,_]) rfl (fun b2=>Qz rfl (vs:=[_,_]) rfl (fun b3=>QZ Xf (fun b4=>QF<|QC<|QG<|JG (.cons _ (.cons_cons _ (.cons_cons _ .slnil))) mixed (by kernel_rfl)<|QK (QI rfl Zd Yu)<|QK (Qi rfl Yu (.there .here) (.here .nil))<|QK (QI rfl Zd Yu)<|QK (Qi rfl Yu .here (.here .nil))<|QK (zz IW rfl rfl)<|QK (QI rfl XM Qs)<|QK (Qi rfl Qs (.there .here) (.skip (.here .nil)))<|QK (QI rfl XM Qs)<|QK (Qi rfl Qs .here (.skip (.here .nil))) ?_)))
 refine QY rfl (fun w F hF ⟨hx,hy⟩=>WY hF (a:=xl) (b:=yl) (ra:=⟨xq,xm,xc⟩) (rb:=⟨yq,ym,yc⟩) hx.1 (hy.1) (px.dg) (py.dg) (by omega) (by first | omega | (simp;done) | (simp;omega))) (fun c14=>?_);rcases c14 with ⟨v14,l14⟩;dsimp only
 refine G7 _ (fun w F hF ⟨⟨hx,hy⟩,⟨h14,h14p⟩⟩=>And.intro h14.2 h14p) (fun p14=>?_)
 have eqn:zx*zy=W2 (!(xn==yn)) l14:=by
  have e14:=p14.2.2.1
  rw [px.e,py.e];unfold W2;rw [e14];cases xn<;>cases yn<;>simp [Int.mul_neg,Int.neg_mul]
 have m14:=p14.2.2.2.2
 refine QY rfl (fun w F hF ⟨⟨hx,hy⟩,⟨h14,h14p⟩⟩=>X2 hF (r:=v14) (l:=l14) (neg:=!(xn==yn)) h14 (p14.2.1) (by omega)) (fun c15=>JU (vs:=[_,_]) rfl rfl rfl Qv rfl .here (.cons_cons _ (.cons_cons _ .slnil)) (fun _ h=>h.1.1) (.here (.here .nil)) ⟨rfl,rfl,trivial⟩<|Q2<|QC<|QR ?_)
 exact QN (c15) rfl (.JX (c:=[_,_]) rfl Qv .here .nil) (rfl) (fun F ⟨⟨⟨hx,hy⟩,⟨h14,h14p⟩⟩,h15⟩=>(by rw [eqn];exact h15))
theorem Fx {w:World} {F:Gs} {x y:Ri} {zx zy:Int} (hF:Fits F w) (hx:YW F x zx) (hy:YW F y zy) (hzx:sz zx≤1000000) (hzy:sz zy≤1000000):Wx Tryz.prog 177 [x.v,y.v] w F (zx+zy):=by
 obtain ⟨xn,⟨xq,xm,xc⟩,xl⟩:=x
 have px:=hx.p
 have lx:=px.len
 have kx:=hx.1.2.1
 have vx:=px.v0
 dsimp only at px lx kx vx
 obtain ⟨yn,⟨yq,ym,yc⟩,yl⟩:=y
 have py:=hy.p
 have ly:=py.len
 have ky:=hy.1.2.1
 have vy:=py.v0
 dsimp only at py ly ky vy
 dsimp only [Ri.v]
 refine QT.intro (G:=fun F=>YW F ⟨xn,⟨xq,xm,xc⟩,xl⟩ zx∧YW F ⟨yn,⟨yq,ym,yc⟩,yl⟩ zy) Tryz.func177 rfl (by rfl) rfl rfl hF (fun F' hF'=>⟨hx.le hF',hy.le hF'⟩)<|QG<|QB<|Qz rfl (vs:=[_,_]) rfl (fun b2=>Qz rfl (vs:=[_,_]) rfl (fun b3=>QZ Xf (fun b4=>QF<|QC<|QG<|QG<|QB<|QA (QI rfl Zd Yu)<|QA (Qi rfl Yu (.there (.there .here)) (.here .nil))<|QA (QI rfl Zd Yu)<|QA (Qi rfl Yu (.there .here) (.here .nil))<|QA (z6 IW rfl rfl)<|QF<|QC ?_)))
 refine QQ rfl (fun hc=>?_) (fun hc=>?_)
 ·
  have hne:xn=yn:=by simpa using hc
  refine QG<|JG (.cons _ (.cons_cons _ (.cons_cons _ .slnil))) mixed (by kernel_rfl)<|QK (QI rfl Zd Yu)<|QK (Qi rfl Yu (.there .here) (.here .nil))<|QK (QI rfl XM Qs)<|QK (Qi rfl Qs (.there .here) (.skip (.here .nil)))<|QK (QI rfl XM Qs)<|QK (Qi rfl Qs .here (.skip (.here .nil))) ?_
  refine QY rfl (fun w F hF ⟨hx,hy⟩=>Bj hF (a:=xl) (b:=yl) (ra:=⟨xq,xm,xc⟩) (rb:=⟨yq,ym,yc⟩) hx.1 (hy.1) (px.dg) (py.dg) (by omega) (by first | omega | (simp;done) | (simp;omega))) (fun c16=>?_);rcases c16 with ⟨v16,l16⟩;dsimp only
  refine G7 _ (fun w F hF ⟨⟨hx,hy⟩,⟨h16,h16p⟩⟩=>And.intro h16.2 h16p) (fun p16=>?_)
  have eqn:zx+zy=W2 xn l16:=by
   have e16:=p16.2.2.1
   rw [px.e,py.e,hne];unfold W2;rw [e16];cases yn<;>simp<;>omega
  have m16:=p16.2.2.2
  refine QY rfl (fun w F hF ⟨⟨hx,hy⟩,⟨h16,h16p⟩⟩=>X2 hF (r:=v16) (l:=l16) (neg:=xn) h16 (p16.2.1) (by omega)) (fun c17=>JU (vs:=[_,_]) rfl rfl rfl Qv rfl .here (.cons_cons _ (.cons_cons _ .slnil)) (fun _ h=>h.1.1) (.here (.here .nil)) ⟨rfl,rfl,trivial⟩<|Q2<|QC<|QR ?_)
  exact QN (c17) rfl (.JX (c:=[_,_]) rfl Qv .here .nil) (rfl) (fun F ⟨⟨⟨hx,hy⟩,⟨h16,h16p⟩⟩,h17⟩=>(by rw [eqn];exact h17))
 ·
  have hne:xn=!yn:=by cases xn<;>cases yn<;>simp_all
  refine QP<|QC<|QG<|QG<|QB<|QA (QI rfl XM Qs)<|QA (Qi rfl Qs (.there (.there .here)) (.skip (.here .nil)))<|QA (QI rfl XM Qs)<|QA (Qi rfl Qs (.there .here) (.skip (.here .nil)))<|QH rfl (fun w F hF ⟨hx,hy⟩=>WH hF (a:=xl) (b:=yl) (ra:=⟨xq,xm,xc⟩) (rb:=⟨yq,ym,yc⟩) hx.1 (hy.1) (px.dg) (py.dg) (px.nz) (py.nz) (by omega) (by omega)) (fun _=>QA (QU rfl rfl rfl)<|QF<|QC ?_)
  refine QQ rfl (fun hc=>?_) (fun hc=>?_)
  ·
   have hle:dv B9 yl≤dv B9 xl:=xN (of_decide_eq_true hc)
   have hll:=KY py.dg px.dg py.nz hle
   refine QG<|JG (.cons _ (.cons_cons _ (.cons_cons _ .slnil))) mixed (by kernel_rfl)<|QK (QI rfl Zd Yu)<|QK (Qi rfl Yu (.there .here) (.here .nil))<|QK (QI rfl XM Qs)<|QK (Qi rfl Qs (.there .here) (.skip (.here .nil)))<|QK (QI rfl XM Qs)<|QK (Qi rfl Qs .here (.skip (.here .nil))) ?_
   refine QY rfl (fun w F hF ⟨⟨hx,hy⟩,_⟩=>Bc hF (a:=xl) (b:=yl) (ra:=⟨xq,xm,xc⟩) (rb:=⟨yq,ym,yc⟩) hx.1 (hy.1) (px.dg) (py.dg) (by omega) (by omega) (hle)) (fun c30=>?_);rcases c30 with ⟨v30,l30⟩;dsimp only
   refine G7 _ (fun w F hF ⟨⟨⟨hx,hy⟩,_⟩,⟨h30,h30p⟩⟩=>And.intro h30.2 h30p) (fun p30=>?_)
   have eqn:zx+zy=W2 xn l30:=by
    have e30:=p30.2.2.1
    rw [px.e,py.e,hne];unfold W2;rw [e30];cases yn<;>simp<;>omega
   have m30:=p30.2.2.2
   refine QY rfl (fun w F hF ⟨⟨⟨hx,hy⟩,_⟩,⟨h30,h30p⟩⟩=>X2 hF (r:=v30) (l:=l30) (neg:=xn) h30 (p30.2.1) (by omega)) (fun c31=>JU (vs:=[_,_]) rfl rfl rfl Qv rfl .here (.cons_cons _ (.cons_cons _ .slnil)) (fun _ h=>h.1.1) (.here (.here .nil)) ⟨rfl,rfl,trivial⟩<|Q2<|QC<|QR ?_)
   exact QN (c31) rfl (.JX (c:=[_,_]) rfl Qv .here .nil) (rfl) (fun F ⟨⟨⟨⟨hx,hy⟩,_⟩,⟨h30,h30p⟩⟩,h31⟩=>(by rw [eqn];exact h31))
  ·
   have hle:dv B9 xl≤dv B9 yl:=qN (of_decide_eq_false hc)
   have hll:=KY px.dg py.dg px.nz hle
   refine QP<|QC<|QG<|JG (.cons _ (.cons_cons _ (.cons_cons _ .slnil))) mixed (by kernel_rfl)<|QK (QI rfl Zd Yu)<|QK (Qi rfl Yu .here (.here .nil))<|QK (QI rfl XM Qs)<|QK (Qi rfl Qs .here (.skip (.here .nil)))<|QK (QI rfl XM Qs)<|QK (Qi rfl Qs (.there .here) (.skip (.here .nil))) ?_
   refine QY rfl (fun w F hF ⟨⟨hx,hy⟩,_⟩=>Bc hF (a:=yl) (b:=xl) (ra:=⟨yq,ym,yc⟩) (rb:=⟨xq,xm,xc⟩) hy.1 (hx.1) (py.dg) (px.dg) (by omega) (by omega) (hle)) (fun c38=>?_);rcases c38 with ⟨v38,l38⟩;dsimp only
   refine G7 _ (fun w F hF ⟨⟨⟨hx,hy⟩,_⟩,⟨h38,h38p⟩⟩=>And.intro h38.2 h38p) (fun p38=>?_)
   have eqn:zx+zy=W2 yn l38:=by
    have e38:=p38.2.2.1
    rw [px.e,py.e,hne];unfold W2;rw [e38];cases yn<;>simp<;>omega
   have m38:=p38.2.2.2
   refine QY rfl (fun w F hF ⟨⟨⟨hx,hy⟩,_⟩,⟨h38,h38p⟩⟩=>X2 hF (r:=v38) (l:=l38) (neg:=yn) h38 (p38.2.1) (by omega)) (fun c39=>JU (vs:=[_,_]) rfl rfl rfl Qv rfl .here (.cons_cons _ (.cons_cons _ .slnil)) (fun _ h=>h.1.1) (.here (.here .nil)) ⟨rfl,rfl,trivial⟩<|Q2<|QC<|QR ?_)
   exact QN (c39) rfl (.JX (c:=[_,_]) rfl Qv .here .nil) (rfl) (fun F ⟨⟨⟨⟨hx,hy⟩,_⟩,⟨h38,h38p⟩⟩,h39⟩=>(by rw [eqn];exact h39))
end
section
open Go.RowKit Ig
theorem Tq {w:World} {F:Gs} {x y:Ri} {zx zy:Int} (hF:Fits F w) (hx:YW F x zx) (hy:YW F y zy) (hp:0<zy) (hzx:sz zx≤1000000) (hzy:sz zy≤1000000):Wx Tryz.prog 193 [x.v,y.v] w F (zx / zy):=by
 obtain ⟨xn,⟨xq,xm,xc⟩,xl⟩:=x
 have px:=hx.p
 have lx:=px.len
 have kx:=hx.1.2.1
 have vx:=px.v0
 dsimp only at px lx kx vx
 obtain ⟨yn,⟨yq,ym,yc⟩,yl⟩:=y
 have py:=hy.p
 have ly:=py.len
 have ky:=hy.1.2.1
 have vy:=py.v0
 dsimp only at py ly ky vy
 dsimp only [Ri.v]
 have hyv:dv B9 yl=zy:=by have:=py.abs;omega
 have hd0:0<dv B9 yl:=by omega
 refine QT.intro (G:=fun F=>YW F ⟨xn,⟨xq,xm,xc⟩,xl⟩ zx∧YW F ⟨yn,⟨yq,ym,yc⟩,yl⟩ zy) Tryz.func193 rfl (by rfl) rfl rfl hF (fun F' hF'=>⟨hx.le hF',hy.le hF'⟩)<|QG<|QB<|Qz rfl (vs:=[_,_]) rfl (fun b2=>Qz rfl (vs:=[_,_]) rfl (fun b3=>QZ Xf (fun b4=>QF<|QC<|QG<|QB<|QA (QI rfl XM Qs)<|QA (Qi rfl Qs (.there (.there .here)) (.skip (.here .nil)))<|QA (QI rfl XM Qs)<|QA (Qi rfl Qs (.there .here) (.skip (.here .nil)))<|QH rfl (fun w F hF ⟨hx,hy⟩=>K1 hF (a:=xl) (b:=yl) (ra:=⟨xq,xm,xc⟩) (rb:=⟨yq,ym,yc⟩) hx.1 (hy.1) (px.dg) (py.dg) (px.nz) (py.nz) (hd0) (by omega) (by omega)) (fun c12=>QA (QD rfl)<|QA (QM rfl rfl)<|QA (QM rfl rfl)<|QA (QE rfl)<|QA (QE rfl)<|QF<|QC<|QG<|QG<|Xo _ (fun w F hF h=>And.intro h.2.1.2 (And.intro h.2.2.2 (And.intro h.2.1.1.2.1 h.2.2.1.2.1))) (fun p12=>?_)))))
 obtain ⟨p12,q12,n12,o12⟩:=p12
 have lq:c12.1.2.length≤xl.length:=KY p12.1 px.dg p12.2.1 (by rw [p12.2.2];exact Int.ediv_le_self _ vx)
 have hr0:(0<c12.2.1.n)↔0<dv B9 xl%dv B9 yl:=by
  have h1:=Yf B1 q12.1 q12.2.1
  have h2:=Qw JE q12.1
  rw [q12.2.2] at h1 h2
  rw [← List.length_eq_zero_iff] at h1
  omega
 have hf:=Lj (a:=dv B9 xl) hd0
 refine QB<|QA (QI rfl Zd Yu)<|QA (Qi rfl Yu (.there (.there .here)) (.here .nil))<|QA (QD rfl) ?_
 refine Qk (t:=17) rfl (fun hb17=>?_) (fun hb17=>?_)
 ·
  refine QL rfl rfl<|QA (QD rfl)<|QL rfl rfl<|QA (Qn rfl Qe)<|QL rfl rfl<|QA (QU rfl rfl rfl)<|QA (Qj rfl rfl rfl)<|QF<|QC ?_
  refine QQ rfl (fun hc=>?_) (fun hc=>?_)
  ·
   refine QB<|QA (QD rfl)<|QW rfl (Q8 Qe) Qp VE rfl rfl (fun b23=>?_)
   refine QH rfl (fun w F hF ⟨⟨⟨hx,hy⟩,h12⟩,hs23⟩=>Bj hF (a:=c12.1.2) (ra:=c12.1.1) (rb:=⟨some ⟨b23,0,none⟩,1,1⟩) h12.1.1 (JP.one hs23) (p12.1) (DG.cons (by decide) (by decide) (DG.nil _)) (by omega) (by first | omega | (simp;done) | (simp;omega))) (fun c24=>?_);rcases c24 with ⟨v24,l24⟩;dsimp only
   refine JJ _ (fun w F hF ⟨⟨⟨⟨hx,hy⟩,h12⟩,hs23⟩,⟨h24,h24p⟩⟩=>And.intro h24.2 h24p) (fun p24=>QA (QE rfl)<|QF<|QC<|QG<|QB<|QA (QI rfl Zd Yu)<|QA (Qi rfl Yu (.there (.there .here)) (.here .nil))<|QA (QD rfl) ?_)
   have m24:=p24.2.2.2
   simp only [List.length_singleton] at m24
   have eqn:zx / zy=W2 xn l24:=by
    have e24:=p24.2.2.1
    rw [Sq,p12.2.2] at e24
    rw [px.e,hb17,← hyv];unfold W2;simp only [if_true]
    rw [hf,if_pos (by have:=of_decide_eq_true hc;omega),e24]
   refine QH rfl (fun w F hF ⟨⟨⟨⟨hx,hy⟩,h12⟩,hs23⟩,⟨h24,h24p⟩⟩=>X2 hF (r:=v24) (l:=l24) (neg:=xn) h24 (p24.2.1) (by omega)) (fun c28=>QS (vs:=[_,_]) rfl rfl rfl Qv rfl .here (.here (.here .nil)) ⟨rfl,rfl,trivial⟩<|QF<|QC<|QR ?_)
   exact QN (c28) rfl (.JX (c:=[_,_]) rfl Qv .here .nil) (rfl) (fun F ⟨⟨⟨⟨⟨hx,hy⟩,h12⟩,hs23⟩,⟨h24,h24p⟩⟩,h28⟩=>(by rw [eqn];exact h28))
  ·
   refine QP<|QC<|QG<|QB<|QA (QI rfl Zd Yu)<|QA (Qi rfl Yu (.there (.there .here)) (.here .nil))<|QA (QD rfl) ?_
   have eqn:zx / zy=W2 xn c12.1.2:=by
    rw [px.e,hb17,← hyv];unfold W2;simp only [if_true]
    rw [hf,if_neg (by have:=of_decide_eq_false hc;omega),p12.2.2]
   refine QH rfl (fun w F hF ⟨⟨hx,hy⟩,h12⟩=>X2 hF (r:=c12.1.1) (l:=c12.1.2) (neg:=xn) h12.1.1 (p12.1) (by omega)) (fun c28=>QS (vs:=[_,_]) rfl rfl rfl Qv rfl .here (.here (.here .nil)) ⟨rfl,rfl,trivial⟩<|QF<|QC<|QR ?_)
   exact QN (c28) rfl (.JX (c:=[_,_]) rfl Qv .here .nil) (rfl) (fun F ⟨⟨⟨hx,hy⟩,h12⟩,h28⟩=>(by rw [eqn];exact h28))
 ·
  refine QO rfl rfl rfl<|QO rfl rfl rfl<|QO rfl rfl rfl<|QA (Qh rfl rfl rfl)<|QF<|QC<|ZE rfl<|QP<|QC<|QG<|QB<|QA (QI rfl Zd Yu)<|QA (Qi rfl Yu (.there (.there .here)) (.here .nil))<|QA (QD rfl) ?_
  have eqn:zx / zy=W2 xn c12.1.2:=by
   rw [px.e,hb17,← hyv];unfold W2;simp only [Bool.false_eq_true,if_false]
   rw [p12.2.2]
  refine QH rfl (fun w F hF ⟨⟨hx,hy⟩,h12⟩=>X2 hF (r:=c12.1.1) (l:=c12.1.2) (neg:=xn) h12.1.1 (p12.1) (by omega)) (fun c28=>QS (vs:=[_,_]) rfl rfl rfl Qv rfl .here (.here (.here .nil)) ⟨rfl,rfl,trivial⟩<|QF<|QC<|QR ?_)
  exact QN (c28) rfl (.JX (c:=[_,_]) rfl Qv .here .nil) (rfl) (fun F ⟨⟨⟨hx,hy⟩,h12⟩,h28⟩=>(by rw [eqn];exact h28))
structure gp (A B:Int) where
 ra:Sr
 rb:Sr
 a:List Int
 b:List Int
 da:DG B9 a
 db:DG B9 b
 za:NZ a
 zb:NZ b
 la:a.length≤10000000
 lb:b.length≤10000000
 nb:b.length=rb.n
 h:Int.gcd (dv B9 a) (dv B9 b)=Int.gcd A B
theorem Lg (x y:Int):Int.gcd y (x%y)=Int.gcd x y:=by
 rw [Int.gcd_comm y,Int.emod_def]
 first | rw [Int.gcd_sub_mul_left_left] | rw [Int.gcd_sub_mul_right_left] | rw [Int.gcd_sub_mul_left] | simp
theorem P3 {w:World} {F:Gs} {ra rb:Sr} {a b:List Int} (hF:Fits F w) (hA:JP F ra a) (hB:JP F rb b) (da:DG B9 a) (db:DG B9 b) (za:NZ a) (zb:NZ b) (la:a.length≤10000000) (lb:b.length≤10000000) :
  QT Tryz.prog 120 [ra.v,rb.v] w F (fun(c:Sr×List Int)=>.slice c.1.q c.1.n c.1.cap) (fun c F=>JP F c.1 c.2∧DG B9 c.2∧NZ c.2∧dv B9 c.2=(Int.gcd (dv B9 a) (dv B9 b):Int)):=by
 refine QT.intro (G:=fun F=>JP F ra a∧JP F rb b) Tryz.func120 rfl (by rfl) rfl rfl hF (fun F' hF'=>⟨hA.le hF',hB.le hF'⟩)<|QG<|QB<|QA (QE rfl)<|QF<|QC<|QG<|Qa<|J0 (ι:=gp (dv B9 a) (dv B9 b)) [] (fun i=>[(0,.slice i.ra.q i.ra.n i.ra.cap),(1,.slice i.rb.q i.rb.n i.rb.cap)]) (fun i=>[]) (fun i F=>JP F i.ra i.a∧JP F i.rb i.b) (fun i=>(dv B9 i.b).toNat) (⟨ra,rb,a,b,da,db,za,zb,la,lb,hB.2.1,rfl⟩) trivial ⟨rfl,rfl,trivial⟩ (List.Sublist.refl _) (fun F h=>h) (fun i=>?_)
 simp only [List.cons_append,List.nil_append]
 have hla:=i.la
 have hlb:=i.lb
 have hnb:=i.nb
 refine QG<|QG<|QB<|QA (QD rfl)<|QA (Qn rfl Qe)<|QA (QU rfl rfl rfl)<|QF<|QC ?_
 refine QQ rfl (fun hc=>?_) (fun hc=>?_)
 ·
  have hpos:0<dv B9 i.b:=by
   have h1:=Yf B1 i.db i.zb
   have h2:=Qw JE i.db
   rw [← List.length_eq_zero_iff] at h1
   have:=of_decide_eq_true hc
   omega
  have hm0:=Int.emod_nonneg (dv B9 i.a) (Int.ne_of_gt hpos)
  have hm1:=Int.emod_lt_of_pos (dv B9 i.a) hpos
  refine QP<|QC<|Qa<|QG<|QB<|QA (QD rfl)<|QA (QD rfl)<|QH rfl (fun w F hF ⟨⟨hA,hB⟩,⟨hR1,hR2⟩⟩=>K1 hF (a:=i.a) (b:=i.b) (ra:=i.ra) (rb:=i.rb) hR1 (hR2) (i.da) (i.db) (i.za) (i.zb) (hpos) (by omega) (by omega)) (fun c13=>QA (QD rfl)<|QA (QM rfl rfl)<|QA (QM rfl rfl)<|QA (QE rfl)<|QA (QE rfl)<|QF<|QC<|Xo _ (fun w F hF h=>And.intro h.2.2.2 h.2.2.1.2.1) (fun q13=>?_))
  obtain ⟨q13,n13⟩:=q13
  refine QB<|QA (QD rfl)<|QA (QD rfl)<|QA (QE rfl)<|QA (QE rfl)<|QF<|Ql ?_
  exact Qo (⟨i.rb,c13.2.1,i.b,c13.2.2,i.db,q13.1,i.zb,q13.2.1,i.lb,by have:=KY q13.1 i.db q13.2.1 (by rw [q13.2.2];omega);omega,n13,by rw [q13.2.2,Lg];exact i.h⟩) (by show(dv B9 c13.2.2).toNat<(dv B9 i.b).toNat;rw [q13.2.2];omega) ⟨rfl,rfl,trivial⟩ (List.Sublist.refl _) (fun F ⟨⟨⟨hA,hB⟩,⟨hR1,hR2⟩⟩,h13⟩=>⟨⟨hA,hB⟩,⟨hR2,h13.2.1⟩⟩)
 ·
  have hz:i.b=[]:=by
   have:=of_decide_eq_false hc
   exact List.eq_nil_of_length_eq_zero (by omega)
  refine Q5 ?_
  repeat (first | refine Qc ?_ | refine QX (by rfl) ?_)
  refine Qd<|QC<|QG<|QB<|QA (QD rfl)<|QA (QE rfl)<|QF<|QC<|QR ?_
  exact QN ((i.ra,i.a):Sr×List Int) rfl (.tmp rfl .nil) (rfl) (fun F ⟨⟨hA,hB⟩,⟨hR1,hR2⟩⟩=>⟨hR1,i.da,i.za,by have e:=i.h;rw [hz,Ss,Int.gcd_zero_right] at e;have:=Qw JE i.da;show dv B9 i.a=_;omega⟩)
end
section
open Go.RowKit Ig
section
variable {P:Program} {N:Nat} {m:Sl} {S:World→Prop} {ty:TypeId}
theorem O2 {T yT:TypeId} {x y:Operand} {a b:Int} (hx:ev m x=some (.int .i64 a)) (hy:ev m y=some (.int .i64 b)) (h:1<b) (h0 : -9223372036854775808≤a) (h1:a≤9223372036854775807):Qt P N m S (.binOp .quo T x y yT) ty (.int .i64 (a.tdiv b)):=by
 have:=F5 (P:=P) (N:=N) (m:=m) (S:=S) (ty:=ty) (T:=T) (yT:=yT) hx hy (by omega)
 have e:=Int.natAbs_tdiv a b
 have e2:a.natAbs.div b.natAbs≤a.natAbs:=Nat.div_le_self _ _
 have e3:a.natAbs.div b.natAbs≤a.natAbs / 2:=Nat.div_le_div_left (by omega) (by decide)
 rw [IntWalk.i64_in _ (by omega)] at this;exact this
end
def Ry (neg:Bool) (m:Nat):Int:=if neg=true then -(m:Int) else(m:Int)
theorem q8 (neg:Bool) (m:Nat):(Ry neg m).tmod 1000000000=Ry neg (m%1000000000):=by
 unfold Ry;split
 ·rw [Int.neg_tmod];exact congrArg Neg.neg (Int.ofNat_tmod m 1000000000).symm
 ·exact(Int.ofNat_tmod m 1000000000).symm
theorem Fw (neg:Bool) (m:Nat):(Ry neg m).tdiv 1000000000=Ry neg (m / 1000000000):=by
 unfold Ry;split
 ·rw [Int.neg_tdiv];exact congrArg Neg.neg (Int.ofNat_tdiv m 1000000000).symm
 ·exact(Int.ofNat_tdiv m 1000000000).symm
theorem Oi (n:Int):n=Ry (decide (n<0)) n.natAbs:=by
 unfold Ry;by_cases h:n<0
 ·simp [h];omega
 ·simp [h];omega
theorem Dh (neg:Bool) (m:Nat):Ry neg m=m∨Ry neg m = -(m:Int):=by
 unfold Ry;split
 ·exact .inr rfl
 ·exact .inl rfl
structure gM (M:Nat) where
 m:Nat
 out:List Int
 v:Value
 ob:List (Nat×Obj)
 le:m≤M
 l3:out.length≤3
 dg:DG B9 out
 h:dv B9 out+B9^out.length*(m:Int)=M
 hr:Q7 3 1 v out.length (out.map Q3) ob
theorem gM.two {M:Nat} (i:gM M) (hM:M≤9223372036854775808) (h0:0<i.m):i.out.length≤2:=by
 rcases Nat.lt_or_ge 2 i.out.length with g | g
 ·exfalso
  have e:i.out.length=3:=by have:=i.l3;omega
  have h:=i.h
  have h1:=Qw JE i.dg
  rw [e] at h
  have h2:B9^3*1≤B9^3*(i.m:Int):=Int.mul_le_mul_of_nonneg_left (by omega) (by decide)
  have h3:B9^3=1000000000000000000000000000:=by decide
  rw [h3] at h2 h
  omega
 ·exact g
theorem Fm {l:List Int} {m M:Nat} (h:dv B9 l+B9^l.length*(m:Int)=M):dv B9 (l++[((m%1000000000:Nat):Int)])+B9^(l++[((m%1000000000:Nat):Int)]).length*((m / 1000000000:Nat):Int)=M:=by
 rw [XX,List.length_append,List.length_singleton,Int.pow_succ,Int.mul_assoc,Int.add_assoc,← Int.mul_add,← h]
 have e:((m%1000000000:Nat):Int)+B9*((m / 1000000000:Nat):Int)=m:=by
  have h9:B9=1000000000:=rfl
  rw [h9];omega
 rw [e]
theorem Gm {w:World} {F:Gs} {n:Int} (hF:Fits F w) (hn : -9223372036854775808≤n∧n≤9223372036854775807):Wx Tryz.prog 176 [.int .i64 n] w F n:=by
 refine QT.intro (G:=fun F=>True) Tryz.func176 rfl (by rfl) rfl rfl hF (fun F' hF'=>trivial)<|QG<|QB<|QZ Xf (fun b2=>QF<|QC<|QG<|QB<|QA (QE rfl)<|QF<|QC<|QG<|QB<|QA (QD rfl)<|QA (QU rfl rfl rfl)<|QA (QE rfl)<|QF<|QC<|QG<|Qa<|J0 (ι:=gM n.natAbs) [(2,_),(4,_)] (fun i=>[(0,.int .i64 (Ry (decide (n<0)) i.m)),(3,i.v)]) (fun i=>(b2,.cells [.bool false,.slice none 0 0].toArray 143 (0,0))::i.ob) (fun i F=>True) (fun i=>i.m) (⟨n.natAbs,[],.slice none 0 0,[],Nat.le_refl _,by simp,DG.nil _,by simp,.nil⟩) ⟨rfl,rfl,trivial⟩ ⟨congrArg (fun z:Int=>some (Value.int .i64 z)) (Oi n),rfl,trivial⟩ (List.Sublist.refl _) (fun _ _=>trivial) (fun i=>?_))
 simp only [List.cons_append,List.nil_append]
 have hle:=i.le
 have hM:n.natAbs≤9223372036854775808:=by omega
 have hcs:=Dh (decide (n<0)) i.m
 have hsr : -9223372036854775808≤Ry (decide (n<0)) i.m∧Ry (decide (n<0)) i.m≤9223372036854775807:=by unfold Ry;split<;>rename_i g<;>simp at g<;>omega
 refine QG<|QG<|QB<|QA (QD rfl)<|QA (QU rfl rfl rfl)<|QF<|QC ?_
 refine QQ rfl (fun hc=>?_) (fun hc=>?_)
 ·
  have h9:B9=1000000000:=rfl
  have hm0:0<i.m:=by
   rcases Nat.eq_zero_or_pos i.m with g | g
   ·rw [g] at hc;cases hd:decide (n<0)<;>simp [Ry,hd] at hc
   ·exact g
  have l2:=i.two hM hm0
  refine QP<|QC<|Qa<|QG<|QB<|QA (QD rfl)<|QA (x2 rfl rfl (by decide)) ?_
  rw [q8]
  refine QA (QE rfl)<|QF<|QC<|QG<|QG<|QB<|QA (QD rfl)<|QA (QU rfl rfl rfl)<|QF<|QC ?_
  refine QQ rfl (fun hc=>?_) (fun hc=>?_)
  ·
   have e1:Ry (decide (n<0)) (i.m%1000000000) = -(((i.m%1000000000):Nat):Int):=by
    have:=of_decide_eq_true hc
    rcases Dh (decide (n<0)) (i.m%1000000000) with g | g<;>omega
   rw [e1]
   refine QB<|QA (QD rfl)<|QA (Jx rfl rfl (by omega))<|QA (QE rfl)<|QF<|QC<|QG<|QB<|QA (QD rfl)<|QA (QD rfl)<|QW rfl (Q8 Qe) Qp VE rfl rfl (fun b18=>ZF (bs':=[(b2,.cells [.bool false,.slice none 0 0].toArray 143 (0,0))]++i.ob) (List.Perm.refl _) ?_)
   refine Kv (ob:=i.ob) (k:=1) (sz:=1) (news:=[.int .i64 (0 - -(((i.m%1000000000):Nat):Int))]) rfl rfl Qe Qp VE rfl DM i.hr (Src.row (off:=0) (fun F ⟨⟨hT,_⟩,hs18⟩=>hs18) (fun j v hv=>by rw [Nat.zero_add];show([.int .i64 (0 - -(((i.m%1000000000):Nat):Int))].toArray)[j]?=some v;rw [List.getElem?_toArray];exact hv) rfl) (by omega) (by omega) (Z1 ⟨rfl,trivial⟩) (fun v19 ob19 hr19=>?_)
   refine QA (QE rfl)<|QF<|QC<|QB<|QA (QD rfl)<|QA (O2 rfl rfl (by decide) (by omega) (by omega)) ?_
   rw [Fw]
   refine QA (QE rfl)<|QF<|Ql ?_
   exact Qo (⟨i.m / 1000000000,i.out++[(((i.m%1000000000):Nat):Int)],v19,ob19,by omega,by rw [List.length_append,List.length_singleton];omega,i.dg.append (DG.cons (by omega) (by show _<B9;rw [h9];omega) (DG.nil _)),Fm i.h,by simpa [Q3] using hr19⟩) (by show i.m / 1000000000<i.m;omega) ⟨rfl,rfl,rfl,rfl,trivial⟩ (List.Sublist.refl _) (fun F h=>⟨h.1.1,trivial⟩)
  ·
   have e1:Ry (decide (n<0)) (i.m%1000000000)=(((i.m%1000000000):Nat):Int):=by
    have:=of_decide_eq_false hc
    rcases Dh (decide (n<0)) (i.m%1000000000) with g | g<;>omega
   rw [e1]
   refine QP<|QC<|QG<|QB<|QA (QD rfl)<|QA (QD rfl)<|QW rfl (Q8 Qe) Qp VE rfl rfl (fun b18=>ZF (bs':=[(b2,.cells [.bool false,.slice none 0 0].toArray 143 (0,0))]++i.ob) (List.Perm.refl _) ?_)
   refine Kv (ob:=i.ob) (k:=1) (sz:=1) (news:=[.int .i64 ((((i.m%1000000000):Nat):Int))]) rfl rfl Qe Qp VE rfl DM i.hr (Src.row (off:=0) (fun F ⟨⟨hT,_⟩,hs18⟩=>hs18) (fun j v hv=>by rw [Nat.zero_add];show([.int .i64 ((((i.m%1000000000):Nat):Int))].toArray)[j]?=some v;rw [List.getElem?_toArray];exact hv) rfl) (by omega) (by omega) (Z1 ⟨rfl,trivial⟩) (fun v19 ob19 hr19=>?_)
   refine QA (QE rfl)<|QF<|QC<|QB<|QA (QD rfl)<|QA (O2 rfl rfl (by decide) (by omega) (by omega)) ?_
   rw [Fw]
   refine QA (QE rfl)<|QF<|Ql ?_
   exact Qo (⟨i.m / 1000000000,i.out++[(((i.m%1000000000):Nat):Int)],v19,ob19,by omega,by rw [List.length_append,List.length_singleton];omega,i.dg.append (DG.cons (by omega) (by show _<B9;rw [h9];omega) (DG.nil _)),Fm i.h,by simpa [Q3] using hr19⟩) (by show i.m / 1000000000<i.m;omega) ⟨rfl,rfl,rfl,rfl,trivial⟩ (List.Sublist.refl _) (fun F h=>⟨h.1.1,trivial⟩)
 ·
  have hm0:i.m=0:=by
   rcases hcs with g | g
   ·rw [g] at hc;simp at hc;exact hc
   ·rw [g] at hc;simp at hc;exact hc
  refine Q5 ?_
  repeat (first | refine Qc ?_ | refine QX (by rfl) ?_)
  refine Qd<|QC<|QG ?_
  have hfin:=i.h
  rw [hm0] at hfin
  have l3:=i.l3
  obtain ⟨r,hv,hrn,hrc,hfix⟩:=Q7.fix (w0:=w) (F0:=F) (bs1:=[(b2,.cells [.bool false,.slice none 0 0].toArray 143 (0,0))]) (G:=fun F=>True∧True) i.hr
  refine AF hfix ?_
  rw [hv]
  refine QB<|QA (QD rfl)<|QA (QD rfl)<|QH rfl (fun w F hF ⟨⟨hT,_⟩,hX⟩=>X2 hF (r:=r) (l:=i.out) (neg:=decide (n<0)) ⟨by rw [hrn];exact hX,by rw [hrn],by omega⟩ (i.dg) (by omega)) (fun c24=>QS (vs:=[_,_]) rfl rfl rfl Qv rfl .here (.here (.here .nil)) ⟨rfl,rfl,trivial⟩<|QF<|QC<|QR ?_)
  have e:n=W2 (decide (n<0)) i.out:=by
   have e2:=Oi n
   unfold W2;unfold Ry at e2
   split at e2<;>rename_i hs<;>simp only [hs]<;>simp<;>omega
  exact QN (c24) rfl (.JX (c:=[_,_]) rfl Qv .here .nil) (rfl) (fun F ⟨⟨⟨hT,_⟩,hX⟩,h24⟩=>(by rw [← e] at h24;exact h24))
end
section
open Go.RowKit Ig
theorem Vt {w:World} {F:Gs} {x:Int} {least:Nat} (hF:Fits F w) (h0:0≤x) (hn:x≤9223372036854775807) (hl:least≤1000):QV Tryz.prog 182 [.int .i64 x,.int .i64 (least:Int)] w F (tx (D0 x.toNat least)):=by
 have:=Ak (n:=x.toNat) (least:=least) hF (by omega) hl
 rw [Int.toNat_of_nonneg h0] at this;exact this
theorem N5 {n:Nat} (h:0<n):D0 n 1=Lib.decDigits n:=by
 have hne:(Lib.decDigits n).length≠0:=fun e=>Y4 n (List.eq_nil_of_length_eq_zero e)
 unfold D0 hd VU
 rw [if_neg (by omega),show 1 - (Lib.decDigits n).length=0 by omega]
 rfl
theorem Rc (n:Nat):D0 n 9=VU 9 (Lib.decDigits n):=by
 unfold D0 hd
 split
 ·rename_i h;subst h;rw [ZQ];decide
 ·rfl
theorem Hl {n:Nat} (h:n<1000000000):(D0 n 9).length=9:=by
 rw [Rc,T4]
 have:=Zb (u:=n) (k:=9) (by omega) (by decide)
 rw [Lib.decDigits_length];exact this
structure qX (l:List Int) where
 k:Nat
 s:List UInt8
 le:k<l.length
 ps:0<dv B9 (l.drop k)
 sl:s.length≤20+9*(l.length - k)
 h:s=Lib.decDigits (dv B9 (l.drop k)).toNat
theorem Gx {l:List Int} (hd:DG B9 l) (hz:NZ l) (h0:0<l.length):dv B9 (l.drop (l.length - 1))=Qf l (l.length - 1)∧0<Qf l (l.length - 1):=by
 have e:=XB (l:=l) (k:=l.length - 1) (by omega)
 rw [List.drop_of_length_le (i:=l.length - 1+1) (by omega)] at e
 refine⟨by rw [e];simp [dv],?_⟩
 obtain ⟨h1,_⟩:=SO (n:=l.length - 1) hd hz (by omega)
 omega
def qX.start {l:List Int} (hd:DG B9 l) (hz:NZ l) (h0:0<l.length):qX l:=⟨l.length - 1,D0 (Qf l (l.length - 1)).toNat 1,by omega,by rw [(Gx hd hz h0).1];exact(Gx hd hz h0).2,by
  have b:=hd.Qf JE (l.length - 1)
  have h9:B9=1000000000:=rfl
  rw [N5 (by have:=(Gx hd hz h0).2;omega),Lib.decDigits_length]
  have:=Zb (u:=(Qf l (l.length - 1)).toNat) (k:=9) (by rw [h9] at b;omega) (by decide)
  omega,by
  rw [N5 (by have:=(Gx hd hz h0).2;omega),(Gx hd hz h0).1]⟩
theorem qX.add {l:List Int} (i:qX l) (hd:DG B9 l) (hk:0<i.k):dv B9 (l.drop (i.k - 1))=Qf l (i.k - 1)+B9*dv B9 (l.drop i.k):=by
 have hle:=i.le
 rw [XB (by omega),Yc,show i.k - 1+1=i.k by omega]
def qX.next {l:List Int} (i:qX l) (hd:DG B9 l) (hk:0<i.k):qX l:=⟨i.k - 1,i.s++D0 (Qf l (i.k - 1)).toNat 9,by have:=i.le;omega,by
  rw [i.add hd hk]
  have b:=hd.Qf JE (i.k - 1)
  have p:=i.ps
  have:B9*1≤B9*dv B9 (l.drop i.k):=Int.mul_le_mul_of_nonneg_left (by omega) (by decide)
  have h9:B9=1000000000:=rfl
  omega,by
  have b:=hd.Qf JE (i.k - 1)
  have h9:B9=1000000000:=rfl
  rw [h9] at b
  have hle:=i.le
  have hsl:=i.sl
  rw [List.length_append,Hl (by omega)]
  omega,by
  have b:=hd.Qf JE (i.k - 1)
  have h9:B9=1000000000:=rfl
  rw [h9] at b
  have p:=i.ps
  have e:=Ko (q:=(dv B9 (l.drop i.k)).toNat) (by omega) 9 (Qf l (i.k - 1)).toNat (by decide) (by omega)
  rw [Rc,i.h,← e,i.add hd hk]
  congr 1
  generalize dv B9 (l.drop i.k)=D at *
  rw [h9]
  omega⟩
theorem MA {w:World} {F:Gs} {x:Ri} {zx:Int} (hF:Fits F w) (hx:YW F x zx) (hz:sz zx≤1000000):QV Tryz.prog 192 [x.v] w F (tx (Xc zx)):=by
 obtain ⟨xn,⟨xq,xm,xc⟩,xl⟩:=x
 have px:=hx.p
 have lx:=px.len
 have kx:=hx.1.2.1
 have vx:=px.v0
 dsimp only at px lx kx vx
 dsimp only [Ri.v]
 have h9:B9=1000000000:=rfl
 refine QT.intro (G:=fun F=>YW F ⟨xn,⟨xq,xm,xc⟩,xl⟩ zx) Tryz.func192 rfl (by rfl) rfl rfl hF (fun F' hF'=>hx.le hF')<|QG<|QB<|Qz rfl (vs:=[_,_]) rfl (fun b1=>QA (QE rfl)<|QF<|QC<|QG<|QG<|QB<|QA (QI rfl XM Qs)<|QA (Qi rfl Qs .here (.skip (.here .nil)))<|QA (Qn rfl Qe)<|QA (QU rfl rfl rfl)<|QF<|QC ?_)
 refine QQ rfl (fun hc=>?_) (fun hc=>?_)
 ·
  have hx0:zx=0:=(px.zero).1 (List.eq_nil_of_length_eq_zero (by have:=hc;simp at this;omega))
  refine QG<|QB<|QA (QE rfl)<|QF<|QC<|QR ?_
  exact QN (()) rfl (.tmp rfl .nil) (by rw [hx0,Jh (by decide)];exact congrArg (fun l=>tx l) ZQ) (fun F hx=>trivial)
 ·
  have hl0:0<xl.length:=by
   rcases Nat.eq_zero_or_pos xm with g | g
   ·rw [g] at hc;simp at hc
   ·omega
  obtain ⟨d1,d2⟩:=Gx px.dg px.nz hl0
  have b0:=px.dg.Qf JE (xl.length - 1)
  rw [h9] at b0
  refine QP<|QC<|QG<|QB<|QA (QI rfl XM Qs)<|QA (Qi rfl Qs .here (.skip (.here .nil)))<|QA (QI rfl XM Qs)<|QA (Qi rfl Qs .here (.skip (.here .nil)))<|QA (Qn rfl Qe)<|QA (Jx rfl rfl (by omega))<|QA (JY (n:=xm) (xl.length - 1) (fun F hx=>(hx.1).1) rfl (congrArg (fun z:Int=>some (Value.int .i64 z)) (by omega)) Qe Qp (by omega))<|QA (Jf (n:=xm) ((xl.length - 1)*1) (fun F hx=>(hx.1).1) (by omega) rfl Qp (JL (o:=xl) (by omega)))<|QH rfl (fun w F hF hx=>Vt hF (least:=1) (by omega) (by omega) (by omega)) (fun _=>QA (QE rfl)<|QF<|QC<|QG<|QG<|QB<|QA (QI rfl XM Qs)<|QA (Qi rfl Qs .here (.skip (.here .nil)))<|QA (Qn rfl Qe)<|QA (Jx rfl rfl (by omega))<|QA (QE rfl)<|QF ?_)
  refine QC<|Qa<|Zf (ι:=qX xl) [(1,_)] (fun i=>[(3,tx i.s),(4,.int .i64 ((i.k:Int) - 1))]) (fun i=>i.k) (qX.start px.dg px.nz hl0) ⟨rfl,trivial⟩ ⟨rfl,(congrArg (fun z:Int=>some (Value.int .i64 z)) (by simp only [qX.start];omega)),trivial⟩ (fun i=>?_)
  simp only [List.cons_append,List.nil_append]
  have hle:=i.le
  have hsl:=i.sl
  refine QG<|QG<|QB<|QA (QD rfl)<|QA (QU rfl rfl rfl)<|QF<|QC ?_
  refine QQ rfl (fun hc=>?_) (fun hc=>?_)
  ·
   have hk0:0<i.k:=by have:=of_decide_eq_true hc;omega
   have b1:=px.dg.Qf JE (i.k - 1)
   rw [h9] at b1
   have ln:=Hl (n:=(Qf xl (i.k - 1)).toNat) (by omega)
   refine QP<|QC<|QG<|Qa<|QB<|QA (QD rfl)<|QA (QI rfl XM Qs)<|QA (Qi rfl Qs .here (.skip (.here .nil)))<|QA (QD rfl)<|QA (JY (n:=xm) (i.k - 1) (fun F ⟨hx,_⟩=>(hx.1).1) rfl (congrArg (fun z:Int=>some (Value.int .i64 z)) (by omega)) Qe Qp (by omega))<|QA (Jf (n:=xm) ((i.k - 1)*1) (fun F ⟨hx,_⟩=>(hx.1).1) (by omega) rfl Qp (JL (o:=xl) (by omega)))<|QH rfl (fun w F hF ⟨hx,_⟩=>Vt hF (least:=9) (by omega) (by omega) (by omega)) (fun _=>QA (XR rfl rfl (by omega))<|QA (QE rfl)<|QF<|Ql<|QC<|QB<|QA (QD rfl)<|QA (Jx rfl rfl (by omega))<|QA (QE rfl)<|QF ?_)
   exact Qo (i.next px.dg hk0) (by show i.k - 1<i.k;omega) ⟨rfl,rfl,(congrArg (fun z:Int=>some (Value.int .i64 z)) (by simp only [qX.next];omega)),trivial⟩ (List.Sublist.refl _) (fun F h=>h.1)
  ·
   have hk0:i.k=0:=by have:=of_decide_eq_false hc;omega
   have hi:=i.h
   rw [hk0,List.drop_zero] at hi
   have ha:=px.abs
   refine Q5 ?_
   repeat (first | refine Qc ?_ | refine QX (by rfl) ?_)
   refine Qd<|QC<|QG<|QG<|QB<|QA (QI rfl Zd Yu)<|QA (Qi rfl Yu .here (.here .nil))<|QF<|QC ?_
   refine QQ rfl (fun hc=>?_) (fun hc=>?_)
   ·
    have hneg:zx<0:=by have:=px.neg;rw [hc] at this;exact of_decide_eq_true this.symm
    refine QG<|QB<|QA (QD rfl)<|QA (XR rfl rfl (by simp;omega))<|QA (QE rfl)<|QF<|QC<|QR ?_
    exact QN (()) rfl (.tmp rfl .nil) (by rw [Zj hneg,hi];exact congrArg (fun n=>tx (45::Lib.decDigits n)) (by omega)) (fun F ⟨hx,_⟩=>trivial)
   ·
    have hneg:¬ zx<0:=by have:=px.neg;rw [hc] at this;exact of_decide_eq_false this.symm
    refine QP<|QC<|QG<|QB<|QA (QD rfl)<|QA (QE rfl)<|QF<|QC<|QR ?_
    exact QN (()) rfl (.tmp rfl .nil) (by rw [Jh (by omega),hi];exact congrArg (fun n=>tx (Lib.decDigits n)) (by omega)) (fun F ⟨hx,_⟩=>trivial)
end
section
open Go.RowKit Ig
structure dY (s:List UInt8) where
 s':List UInt8
 out:List Int
 v:Value
 ob:List (Nat×Obj)
 dg:DG B9 out
 al:XF s'=true
 ll:s'.length+9*out.length≤s.length
 h:(Q9 s':Int)*B9^out.length+dv B9 out=Q9 s
 hr:Q7 3 1 v out.length (out.map Q3) ob
theorem UE:((10^9:Nat):Int)=B9:=by decide
theorem jV {s:List UInt8} {out:List Int} {z:Int} (h:(Q9 s:Int)*B9^out.length+dv B9 out=z) (hl:9≤s.length):(Q9 (s.take (s.length - 9)):Int)*B9^(out++[(Q9 (s.drop (s.length - 9)):Int)]).length+dv B9 (out++[(Q9 (s.drop (s.length - 9)):Int)])=z:=by
 have e:=Z9 (s.take (s.length - 9)) (s.drop (s.length - 9))
 rw [List.take_append_drop,List.length_drop,show s.length - (s.length - 9)=9 by omega] at e
 rw [XX,List.length_append,List.length_singleton,Int.pow_succ,← h,e,Int.natCast_add,Int.natCast_mul,UE]
 generalize B9^out.length=p
 generalize ((Q9 (s.take (s.length - 9)):Nat):Int)=a
 generalize ((Q9 (s.drop (s.length - 9)):Nat):Int)=b
 generalize B9=B
 grind
theorem Hy {s:List UInt8} (h:Lib.hasPrefix s [45]=true):1≤s.length:=by
 rcases Nat.eq_zero_or_pos s.length with g | g
 ·rw [List.eq_nil_of_length_eq_zero g] at h;simp [Lib.hasPrefix] at h
 ·omega
theorem D9 {P:Program} {Q:Exit→Act→World→Prop} {ops:Array Oper} {l:List Oper} {N:Nat} {m:Sl} {E E':Env} (h:∀ w,St E w→St E' w) (k:JS P ops Q l N m E'):JS P ops Q l N m E:=fun a w ha hw=>k a w ha (h w hw)
theorem yI {s t:List UInt8} {out:List Int} (h:(Q9 t:Int)*B9^out.length+dv B9 out=Q9 (Lib.trimPrefix s [45])):W2 (Lib.hasPrefix s [45]) (out++[(Q9 t:Int)])=Zt s:=by
 have e:dv B9 (out++[(Q9 t:Int)])=Q9 (Lib.trimPrefix s [45]):=by
  rw [XX,← h,Int.mul_comm];omega
 unfold W2 Zt
 rw [e]
 unfold Lib.trimPrefix
 cases Lib.hasPrefix s [45]<;>simp
theorem P1 {s:List UInt8} (h:XF s=true) (hl:s.length≤9):(Q9 s:Int)<B9:=by
 have h1:=VQ h
 have h2:10^s.length≤10^9:=Nat.pow_le_pow_right (by decide) hl
 have h3:=UE
 omega
theorem WG {w:World} {F:Gs} {s:List UInt8} (hF:Fits F w) (hs:XF (Lib.trimPrefix s [45])=true) (hl:s.length≤1000000):Wx Tryz.prog 167 [tx s] w F (Zt s):=by
 refine QT.intro (G:=fun F=>True) Tryz.func167 rfl (by rfl) rfl rfl hF (fun F' hF'=>trivial)<|QG<|QB<|QZ Xf (fun b2=>QF<|QC ?_)
 refine Ze [(0,_),(2,_)] [(3,.bool (Lib.hasPrefix s [45]))] ⟨rfl,rfl,trivial⟩ ?_ ?_
 ·
  refine QB<|QA (QD rfl)<|QA (Jq rfl J8)<|QA (QU rfl rfl rfl)<|QA (QD rfl) ?_
  refine Qk (t:=8) rfl (fun hb8=>?_) (fun hb8=>?_)
  ·
   refine QL rfl rfl<|QA (QD rfl)<|QL rfl rfl<|QA (KI (i:=0) rfl rfl J8 (by have:=of_decide_eq_true hb8;omega))<|QL rfl rfl<|QA (QU rfl rfl rfl)<|QA (Qj rfl rfl rfl)<|QA (QE rfl)<|QF ?_
   exact J2 ⟨rfl,rfl,(congrArg (fun b=>some (Value.bool b)) (by have h0:0<s.length:=(by have:=of_decide_eq_true hb8;omega);rw [Y1 h0];exact GA rfl)),trivial⟩ (List.Sublist.refl _) (fun _ h=>h)
  ·
   refine QO rfl rfl rfl<|QO rfl rfl rfl<|QO rfl rfl rfl<|QA (Qh rfl rfl rfl)<|QA (QE rfl)<|QF ?_
   exact J2 ⟨rfl,rfl,(congrArg (fun b=>some (Value.bool b)) (by have h0:s.length=0:=(by have:=of_decide_eq_false hb8;omega);rw [List.eq_nil_of_length_eq_zero h0];rfl)),trivial⟩ (List.Sublist.refl _) (fun _ h=>h)
 ·
  simp only [List.cons_append,List.nil_append]
  refine Ze [(2,_),(3,_)] [(0,tx (Lib.trimPrefix s [45]))] ⟨rfl,rfl,trivial⟩ ?_ ?_
  ·
   refine QG<|QB<|QA (QD rfl)<|QF<|QC ?_
   refine QQ rfl (fun hc=>?_) (fun hc=>?_)
   ·
    refine QB<|QA (QD rfl)<|QA (Zu (1) rfl rfl J8 rfl (Hy hc))<|QA (QE rfl)<|QF ?_
    exact J2 ⟨rfl,rfl,(congrArg (fun l=>some (tx l)) (by unfold Lib.trimPrefix;rw [if_pos hc];rfl)),trivial⟩ (List.Sublist.refl _) (fun _ h=>h)
   ·
    refine QP ?_
    exact J2 ⟨rfl,rfl,(congrArg (fun l=>some (tx l)) (by unfold Lib.trimPrefix;rw [hc];rfl)),trivial⟩ (List.Sublist.refl _) (fun _ h=>h)
  ·
   simp only [List.cons_append,List.nil_append]
   have hln:(Lib.trimPrefix s [45]).length≤s.length:=BN _ _
   refine QG<|QB<|QA (QE rfl)<|QF<|QC<|QG<|Qa<|J0 (ι:=dY (Lib.trimPrefix s [45])) [(2,_),(3,_)] (fun i=>[(0,tx i.s'),(4,i.v)]) (fun i=>(b2,.cells [.bool false,.slice none 0 0].toArray 143 (0,0))::i.ob) (fun i F=>True) (fun i=>i.s'.length) (⟨Lib.trimPrefix s [45],[],.slice none 0 0,[],DG.nil _,hs,by simp,by simp,.nil⟩) ⟨rfl,rfl,trivial⟩ ⟨rfl,rfl,trivial⟩ (List.Sublist.refl _) (fun _ _=>trivial) (fun i=>?_)
   simp only [List.cons_append,List.nil_append]
   have hll:=i.ll
   refine QG<|QG<|QB<|QA (QD rfl)<|QA (Jq rfl J8)<|QA (QU rfl rfl rfl)<|QF<|QC ?_
   refine QQ rfl (fun hc=>?_) (fun hc=>?_)
   ·
    have h9:9<i.s'.length:=by have:=of_decide_eq_true hc;omega
    refine QP<|QC<|Qa<|QG<|QB<|QA (QD rfl)<|QA (QD rfl)<|QA (QD rfl)<|QA (Jq rfl J8)<|QA (Jx rfl rfl (by omega))<|QA (Zu (i.s'.length - 9) rfl rfl J8 (congrArg (fun z:Int=>some (Value.int .i64 z)) (by omega)) (by omega))<|QH rfl (fun w F hF ⟨hT,_⟩=>Bb hF (D3 i.al _) (by rw [List.length_drop];omega)) (fun _=>QW rfl (Q8 Qe) Qp VE rfl rfl (fun b26=>ZF (bs':=[(b2,.cells [.bool false,.slice none 0 0].toArray 143 (0,0))]++i.ob) (List.Perm.refl _) ?_))
    refine Kv (ob:=i.ob) (k:=1) (sz:=1) (news:=[.int .i64 ((Q9 (i.s'.drop (i.s'.length - 9)):Int))]) rfl rfl Qe Qp VE rfl DM i.hr (Src.row (off:=0) (fun F ⟨⟨⟨hT,_⟩,_⟩,hs26⟩=>hs26) (fun j v hv=>by rw [Nat.zero_add];show([.int .i64 ((Q9 (i.s'.drop (i.s'.length - 9)):Int))].toArray)[j]?=some v;rw [List.getElem?_toArray];exact hv) rfl) (by omega) (by omega) (Z1 ⟨rfl,trivial⟩) (fun v27 ob27 hr27=>?_)
    refine QA (QE rfl)<|QF<|QC<|QB<|QA (QD rfl)<|QA (QD rfl)<|QA (Jq rfl J8)<|QA (Jx rfl rfl (by omega))<|QA (Vv (i.s'.length - 9) rfl rfl J8 (congrArg (fun z:Int=>some (Value.int .i64 z)) (by omega)) (by omega))<|QA (QE rfl)<|QF<|Ql ?_
    exact Qo (⟨i.s'.take (i.s'.length - 9),i.out++[(Q9 (i.s'.drop (i.s'.length - 9)):Int)],v27,ob27,i.dg.append (DG.cons (by omega) (P1 (D3 i.al _) (by rw [List.length_drop];omega)) (DG.nil _)),G4 i.al _,by rw [List.length_take,List.length_append,List.length_singleton];omega,jV i.h (by omega),by simpa [Q3] using hr27⟩) (by show(i.s'.take (i.s'.length - 9)).length<i.s'.length;rw [List.length_take];omega) ⟨rfl,rfl,rfl,rfl,trivial⟩ (List.Sublist.refl _) (fun F h=>⟨h.1.1.1,trivial⟩)
   ·
    have h9:i.s'.length≤9:=by have:=of_decide_eq_false hc;omega
    refine Q5 ?_
    repeat (first | refine Qc ?_ | refine QX (by rfl) ?_)
    refine Qd<|QC<|QG<|QB<|QA (QD rfl)<|QA (QD rfl)<|QA (QD rfl)<|QH rfl (fun w F hF ⟨hT,_⟩=>Bb hF (i.al) (by omega)) (fun _=>QW rfl (Q8 Qe) Qp VE rfl rfl (fun b37=>ZF (bs':=[(b2,.cells [.bool false,.slice none 0 0].toArray 143 (0,0))]++i.ob) (List.Perm.refl _) ?_))
    refine Kv (ob:=i.ob) (k:=1) (sz:=1) (news:=[.int .i64 ((Q9 i.s':Int))]) rfl rfl Qe Qp VE rfl DM i.hr (Src.row (off:=0) (fun F ⟨⟨⟨hT,_⟩,_⟩,hs37⟩=>hs37) (fun j v hv=>by rw [Nat.zero_add];show([.int .i64 ((Q9 i.s':Int))].toArray)[j]?=some v;rw [List.getElem?_toArray];exact hv) rfl) (by omega) (by omega) (Z1 ⟨rfl,trivial⟩) (fun v38 ob38 hr38=>?_)
    obtain ⟨r,hv,hrn,hrc,hfix⟩:=Q7.fix (w0:=w) (F0:=F) (bs1:=[(b2,.cells [.bool false,.slice none 0 0].toArray 143 (0,0))]) (G:=_) hr38
    refine D9 hfix ?_
    rw [hv]
    refine QH rfl (fun w F hF ⟨⟨⟨⟨hT,_⟩,_⟩,hs37⟩,hX⟩=>X2 hF (r:=r) (l:=i.out++[(Q9 i.s':Int)]) (neg:=Lib.hasPrefix s [45]) ⟨by rw [hrn];simpa [Q3] using hX,by rw [hrn];simp,by omega⟩ (i.dg.append (DG.cons (by omega) (P1 i.al h9) (DG.nil _))) (by first | omega | (simp;omega))) (fun c39=>QS (vs:=[_,_]) rfl rfl rfl Qv rfl .here (.here (.here .nil)) ⟨rfl,rfl,trivial⟩<|QF<|QC<|QR ?_)
    exact QN (c39) rfl (.JX (c:=[_,_]) rfl Qv .here .nil) (rfl) (fun F ⟨⟨⟨⟨⟨hT,_⟩,_⟩,hs37⟩,hX⟩,h39⟩=>(by rw [yI i.h] at h39;exact h39))
end
section
open Go.RowKit Ig
theorem Gt (z:Int):(Xc z).length≤sz z+2:=by
 have h:(Lib.decDigits z.natAbs).length≤sz z+1:=by
  rw [Lib.decDigits_length]
  refine Zb ?_ (by omega)
  have h1:=Hd z
  have h2:2^sz z≤10^sz z:=Nat.pow_le_pow_left (by decide) _
  have h3:10^sz z≤10^(sz z+1):=Nat.pow_le_pow_right (by decide) (by omega)
  omega
 rcases Int.lt_or_le z 0 with g | g
 ·rw [Zj g,List.length_cons];omega
 ·rw [Jh g];omega
theorem SZ (n:Nat):(Lib.decDigits n).length≤sz (n:Int)+1:=by
 rw [Lib.decDigits_length]
 refine Zb ?_ (by omega)
 have h1:=Hd (n:Int)
 have h2:2^sz (n:Int)≤10^sz (n:Int):=Nat.pow_le_pow_left (by decide) _
 have h3:10^sz (n:Int)≤10^(sz (n:Int)+1):=Nat.pow_le_pow_right (by decide) (by omega)
 simp at h1
 omega
theorem YB (x:Rat):(Qy x).length≤2*JQ x+4:=by
 have h1:=Gt x.num
 have h2:=SZ x.den
 have h3:=JV x
 have h4:=JR x
 unfold Qy
 split
 ·omega
 ·rw [List.length_append,List.length_cons];omega
theorem Rk {l:List UInt8} (h:l.contains 47=false):l.all (fun c=>!Jp c)=true:=by
 rw [List.all_eq_true]
 intro c hc
 have:c≠47:=by rintro rfl;simp [hc] at h
 simp [Jp,this]
theorem RE (z:Int):(Xc z).contains 47=false:=Bq z (by decide) (by decide)
theorem Hu {x:Rat} (h:x.den=1):Qy x=Xc x.num∧ahead Jp (Qy x)=(Qy x).length:=by
 have e:Qy x=Xc x.num:=by unfold Qy;rw [if_pos h]
 exact⟨e,by rw [e];exact Rm (Rk (RE _))⟩
theorem Kl {x:Rat} (h:x.den≠1):ahead Jp (Qy x)=(Xc x.num).length∧ahead Jp (Qy x)<(Qy x).length∧(Qy x).take (ahead Jp (Qy x))=Xc x.num∧(Qy x).drop (ahead Jp (Qy x)+1)=Lib.decDigits x.den:=by
 have e:Qy x=Xc x.num++47::Lib.decDigits x.den:=by unfold Qy;rw [if_neg h]
 have h1:ahead Jp (Qy x)=(Xc x.num).length:=by
  refine Rl (by rw [e];simp) ?_ ?_
  ·rw [e,List.take_append_of_le_length (Nat.le_refl _),List.take_length];exact Rk (RE _)
  ·simp [e,Jp]
 rw [h1]
 refine⟨rfl,by rw [e];simp,?_,?_⟩
 ·rw [e];simp
 ·rw [e,List.drop_append];simp
theorem Hv (x:Rat):(ahead Jp (Qy x)=(Qy x).length)↔x.den=1:=by
 constructor
 ·intro h
  by_cases g:x.den=1
  ·exact g
  ·have:=(Kl g).2.1;omega
 ·intro h;exact(Hu h).2
theorem RD (z:Int):XF (Lib.trimPrefix (Xc z) [45])=true:=by rw [Gg];exact JZ _
theorem Lq (n:Nat):XF (Lib.trimPrefix (Lib.decDigits n) [45])=true:=by rw [X8 (JZ n)];exact JZ _
theorem Iz (n:Nat):Zt (Lib.decDigits n)=n:=by rw [XE (JZ n),XS]
@[reducible] def Ri.v2 (c:Ri×Ri):Value:=.tuple #[c.1.v,c.2.v]
theorem YU {w:World} {F:Gs} {x:Rat} (hF:Fits F w) (hl:JQ x≤100000):QT Tryz.prog 119 [tx (Qy x)] w F Ri.v2 (fun c F=>YW F c.1 x.num∧YW F c.2 x.den):=by
 have hlen:=YB x
 refine QT.intro (G:=fun F=>True) Tryz.func119 rfl (by rfl) rfl rfl hF (fun F' hF'=>trivial)<|QG<|QB<|QZ Xf (fun b2=>QZ Xf (fun b3=>QF<|QC<|QG<|QB<|QA (QD rfl)<|QA (QE rfl)<|QF<|QC<|QG<|QB<|QA (QD rfl)<|QH rfl (fun w F hF hT=>VP hF (by omega)) (fun _=>QA (QE rfl)<|QF<|QC<|QG<|QG<|QB<|QA (QD rfl)<|QA (QD rfl) ?_)))
 refine QA (Jq rfl J8)<|QA (QU rfl rfl rfl)<|QF<|QC ?_
 refine QQ rfl (fun hc=>?_) (fun hc=>?_)
 ·
  have hd:x.den=1:=(Hv x).1 (by have:(ahead Jp (Qy x):Int)=((Qy x).length:Int):=(by simpa using hc);omega)
  rw [(Hu hd).1]
  refine QG<|QB<|QA (QD rfl)<|QH rfl (fun w F hF ⟨hT,_⟩=>WG hF (RD _) (by have:=Gt x.num;have:=JV x;omega)) (fun c14=>QH rfl (fun w F hF ⟨⟨hT,_⟩,h14⟩=>Gm hF (by decide)) (fun c15=>QS (vs:=[_,_]) rfl rfl rfl Qv rfl (.there .here) (.here (.here .nil)) ⟨rfl,rfl,trivial⟩<|QS (vs:=[_,_]) rfl rfl rfl Qv rfl .here (.here (.here .nil)) ⟨rfl,rfl,trivial⟩<|QF<|QC<|QR ?_))
  exact Jb ((c14,c15):Ri×Ri) rfl (.JX (c:=[_,_]) rfl Qv (.there .here) (.JX (c:=[_,_]) rfl Qv .here .nil)) (rfl) (fun F ⟨⟨⟨hT,_⟩,h14⟩,h15⟩=>⟨by rw [Z8] at h14;exact h14,by have e:(x.den:Int)=1:=(by rw [hd];rfl);rw [e];exact h15⟩)
 ·
  have hd:¬ x.den=1:=fun g=>by have:=(Hv x).2 g;rw [this] at hc;simp at hc
  obtain ⟨k1,k2,k3,k4⟩:=Kl hd
  refine QP<|QC<|QG<|JG (.cons _ (.cons _ .slnil)) mixed (by kernel_rfl)<|QK (QD rfl)<|QK (QD rfl)<|QK (Vv (ahead Jp (Qy x)) rfl rfl J8 rfl (by omega)) ?_
  rw [k3]
  refine QY rfl (fun w F hF ⟨hT,_⟩=>WG hF (RD _) (by have:=Gt x.num;have:=JV x;omega)) (fun c19=>QK (QD rfl)<|QK (QD rfl)<|QK (Qu rfl rfl (by omega))<|QK (Zu ((ahead Jp (Qy x)+1)) rfl rfl J8 (congrArg (fun z:Int=>some (Value.int .i64 z)) (by omega)) (by omega)) ?_)
  rw [k4]
  refine QY rfl (fun w F hF ⟨⟨hT,_⟩,B1⟩=>WG hF (Lq _) (by have:=SZ x.den;have:=JR x;omega)) (fun c24=>JU (vs:=[_,_]) rfl rfl rfl Qv rfl (.there .here) (.cons _ .slnil) (fun _ h=>h.1.1) (.here (.here .nil)) ⟨rfl,rfl,trivial⟩<|JU (vs:=[_,_]) rfl rfl rfl Qv rfl .here (.cons _ .slnil) (fun _ h=>h.1.1) (.here (.here .nil)) ⟨rfl,rfl,trivial⟩<|Q2<|QC<|QR ?_)
  exact Jb ((c19,c24):Ri×Ri) rfl (.JX (c:=[_,_]) rfl Qv (.there .here) (.JX (c:=[_,_]) rfl Qv .here .nil)) (rfl) (fun F ⟨⟨⟨hT,_⟩,B1⟩,h24⟩=>⟨by rw [Z8] at B1;exact B1,by rw [Iz] at h24;exact h24⟩)
end
section
open Go.RowKit Ig
structure ga (zx zy:Int) where
 n:Ri
 d:Ri
 zn:Int
 zd:Int
 h:0<zd
 e:Rat.divInt zn zd=Rat.divInt zx zy
 sn:sz zn≤500000
 sd:sz zd≤500000
theorem j9 {n d:Int} (h:0<d) {neg:Bool} {l p:List Int} (hn:Vk neg l n) (hp:dv B9 p=dv B9 l / (Int.gcd n d:Int)):W2 neg p=(Rat.divInt n d).num:=by
 rw [(YH h).1]
 have hg:(0:Int)<(Int.gcd n d:Int):=by have:=K4 (x:=n) h;omega
 obtain ⟨k,hk⟩:=Int.gcd_dvd_left (a:=n) (b:=d)
 have e:=hn.e
 have hv:=hn.v0
 unfold W2 at e ⊢
 rw [hp]
 cases neg with
 |true =>
  simp only [if_true] at e ⊢
  have e2:dv B9 l=(Int.gcd n d:Int)*(-k):=by rw [Int.mul_neg,← hk];omega
  rw [e2,Int.mul_ediv_cancel_left _ (by omega)]
  have e3:n / (Int.gcd n d:Int)=k:=by
   conv=>lhs;lhs;rw [hk]
   exact Int.mul_ediv_cancel_left _ (by omega)
  rw [e3];omega
 |false =>
  simp only [Bool.false_eq_true,if_false] at e ⊢
  rw [← e]
theorem xA {n d:Int} (h:0<d) {neg:Bool} {l p:List Int} (hn:Vk neg l d) (hp:dv B9 p=dv B9 l / (Int.gcd n d:Int)):dv B9 p=((Rat.divInt n d).den:Int):=by
 rw [(YH h).2,hp]
 have:=hn.abs
 congr 1;omega
theorem Uo {n d:Int} {a b:Bool} {l m:List Int} (hn:Vk a l n) (hd:Vk b m d):Int.gcd (dv B9 l) (dv B9 m)=Int.gcd n d:=by
 rw [← hn.abs,← hd.abs];simp [Int.gcd]
theorem Ux (x y:Int):Rat.divInt (-x) (-y)=Rat.divInt x y:=Rat.neg_divInt_neg x y
theorem NP {l:List Int} (h:DG B9 l) (hz:NZ l):(l.length=1∧Qf l 0=1)↔dv B9 l=1:=by
 constructor
 ·rintro ⟨h1,h2⟩
  obtain ⟨x,rfl⟩:=List.length_eq_one_iff.1 h1
  simp [Qf] at h2
  simp [dv,h2]
 ·intro e
  have:l=[1]:=qE B1 h (DG.cons (by decide) (by decide) (DG.nil _)) hz (by simp [NZ]) (by rw [e];simp [dv])
  subst this;exact⟨rfl,rfl⟩
theorem F4 {x:Rat} (h:(x.den:Int)=1):Xc x.num=Qy x:=by unfold Qy;rw [if_pos (by omega)]
theorem R8 {x:Rat} (h:¬ (x.den:Int)=1):Xc x.num++[47]++Xc (x.den:Int)=Qy x:=by
 unfold Qy;rw [if_neg (by omega),Jh (z:=(x.den:Int)) (by omega)];simp
theorem Yl {w:World} {F:Gs} {x y:Ri} {zx zy:Int} (hF:Fits F w) (hx:YW F x zx) (hy:YW F y zy) (h0:zy≠0) (hzx:sz zx≤500000) (hzy:sz zy≤500000):QV Tryz.prog 180 [x.v,y.v] w F (tx (Qy (Rat.divInt zx zy))):=by
 obtain ⟨xn,⟨xq,xm,xc⟩,xl⟩:=x
 have px:=hx.p
 have lx:=px.len
 have kx:=hx.1.2.1
 have vx:=px.v0
 dsimp only at px lx kx vx
 obtain ⟨yn,⟨yq,ym,yc⟩,yl⟩:=y
 have py:=hy.p
 have ly:=py.len
 have ky:=hy.1.2.1
 have vy:=py.v0
 dsimp only at py ly ky vy
 dsimp only [Ri.v]
 have hny:=py.neg
 refine QT.intro (G:=fun F=>YW F ⟨xn,⟨xq,xm,xc⟩,xl⟩ zx∧YW F ⟨yn,⟨yq,ym,yc⟩,yl⟩ zy) Tryz.func180 rfl (by rfl) rfl rfl hF (fun F' hF'=>⟨hx.le hF',hy.le hF'⟩)<|QG<|QB<|Qz rfl (vs:=[_,_]) rfl (fun b2=>Qz rfl (vs:=[_,_]) rfl (fun b3=>QA (QE rfl)<|QF<|QC ?_))
 refine Ic (ι:=ga zx zy) [(2,_),(3,_)] (fun i=>[]) (fun i=>[(b3,.cells [.bool i.d.neg,.slice i.d.r.q i.d.r.n i.d.r.cap].toArray 143 (0,0)),(b2,.cells [.bool i.n.neg,.slice i.n.r.q i.n.r.n i.n.r.cap].toArray 143 (0,0))]) (fun i F=>YW F i.n i.zn∧YW F i.d i.zd) ⟨rfl,rfl,trivial⟩ ?_ ?_
 ·
  refine QG<|QB<|QA (QI rfl Zd Yu)<|QA (Qi rfl Yu .here (.here .nil))<|QF<|QC ?_
  refine QQ rfl (fun hc=>?_) (fun hc=>?_)
  ·
   refine Xv 4 (List.Sublist.refl _) mixed (by kernel_rfl) (by kernel_rfl) ?_
   simp only [List.take_succ_cons,List.take_zero,List.drop_succ_cons,List.drop_zero]
   refine QK (QJ (vs:=[_,_]) rfl Qv (.there .here) (.here (.here .nil)) rfl)<|QY rfl (fun w F hF ⟨hx,hy⟩=>Tn hF (x:=⟨xn,⟨xq,xm,xc⟩,xl⟩) hx (by omega)) (fun c14=>QK (QJ (vs:=[_,_]) rfl Qv .here (.here (.here .nil)) rfl)<|QY rfl (fun w F hF ⟨⟨hx,hy⟩,h14⟩=>Tn hF (x:=⟨yn,⟨yq,ym,yc⟩,yl⟩) hy (by omega)) (fun c16=>VD<|QS (vs:=[_,_]) rfl rfl rfl Qv rfl (.there .here) (.here (.here .nil)) ⟨rfl,rfl,trivial⟩<|QS (vs:=[_,_]) rfl rfl rfl Qv rfl .here (.here (.here .nil)) ⟨rfl,rfl,trivial⟩<|QF ?_))
   exact XC (⟨c14,c16,-zx,-zy,by rw [hc] at hny;have:=of_decide_eq_true hny.symm;omega,Ux _ _,by rw [YK];exact hzx,by rw [YK];exact hzy⟩) ⟨rfl,rfl,trivial⟩ (List.Sublist.refl _) (fun F ⟨⟨⟨hx,hy⟩,h14⟩,h16⟩=>⟨⟨hx,hy⟩,⟨h14,h16⟩⟩)
  ·
   refine QP ?_
   exact XC (⟨⟨xn,⟨xq,xm,xc⟩,xl⟩,⟨yn,⟨yq,ym,yc⟩,yl⟩,zx,zy,by rw [hc] at hny;have:=of_decide_eq_false hny.symm;omega,rfl,hzx,hzy⟩) ⟨rfl,rfl,trivial⟩ (List.Sublist.refl _) (fun F ⟨hx,hy⟩=>⟨⟨hx,hy⟩,⟨hx,hy⟩⟩)
 ·intro i
  simp only [List.cons_append,List.nil_append]
  refine Xo _ (fun w F hF h=>And.intro h.2.1.p (And.intro h.2.2.p (And.intro h.2.1.1.2.1 h.2.2.1.2.1))) (fun pp=>?_)
  obtain ⟨pn,pd,kn,kd⟩:=pp
  have ln:=pn.len
  have ld:=pd.len
  have hsn:=i.sn
  have hsd:=i.sd
  have hi:=i.h
  have gg:=Uo pn pd
  have q1:=Yd (a:=i.zn) (b:=i.zd) (by omega)
  have q2:=JV (Rat.divInt i.zn i.zd)
  have q3:=JR (Rat.divInt i.zn i.zd)
  have q4:sz (Rat.divInt i.zn i.zd).num≤500000:=by omega
  have q5:sz ((Rat.divInt i.zn i.zd).den:Int)≤500000:=by omega
  refine QG<|QB<|QA (QI rfl XM Qs)<|QA (Qi rfl Qs (.there .here) (.skip (.here .nil)))<|QA (QI rfl XM Qs)<|QA (Qi rfl Qs .here (.skip (.here .nil))) ?_
  refine QH rfl (fun w F hF ⟨⟨hx,hy⟩,⟨hN,hD⟩⟩=>P3 hF (a:=i.n.l) (b:=i.d.l) (ra:=i.n.r) (rb:=i.d.r) hN.1 (hD.1) (pn.dg) (pd.dg) (pn.nz) (pd.nz) (by omega) (by omega)) (fun c21=>?_);rcases c21 with ⟨v21,l21⟩;dsimp only
  refine JJ _ (fun w F hF ⟨⟨⟨hx,hy⟩,⟨hN,hD⟩⟩,⟨h21,h21p⟩⟩=>And.intro h21.2 h21p) (fun p21=>QA (QE rfl)<|QF<|QC<|QG ?_)
  have g0:0<dv B9 l21:=by rw [p21.2.2.2,gg];have:=K4 (x:=i.zn) i.h;omega
  have l21l:l21.length≤i.d.l.length:=by
   refine KY p21.2.1 pd.dg p21.2.2.1 ?_
   rw [p21.2.2.2,gg]
   have h1:(Int.gcd i.zn i.zd:Int)≤i.zd:=Int.le_of_dvd i.h (Int.gcd_dvd_right (a:=i.zn) (b:=i.zd))
   have h2:=pd.abs
   omega
  refine QB<|QA (QI rfl XM Qs)<|QA (Qi rfl Qs (.there .here) (.skip (.here .nil)))<|QA (QD rfl)<|QH rfl (fun w F hF ⟨⟨⟨hx,hy⟩,⟨hN,hD⟩⟩,⟨h21,h21p⟩⟩=>K1 hF (a:=i.n.l) (b:=l21) (ra:=i.n.r) (rb:=v21) hN.1 (h21) (pn.dg) (p21.2.1) (pn.nz) (p21.2.2.1) (g0) (by omega) (by omega)) (fun c26=>QA (QD rfl)<|QA (QM rfl rfl)<|QA (QM rfl rfl)<|QA (QE rfl)<|QA (QE rfl)<|QF<|QC<|QG<|Xo _ (fun w F hF h=>And.intro h.2.1.2 h.2.1.1.2.1) (fun p26=>?_))
  obtain ⟨p26,n26⟩:=p26
  refine QB<|QA (QI rfl XM Qs)<|QA (Qi rfl Qs .here (.skip (.here .nil)))<|QA (QD rfl)<|QH rfl (fun w F hF ⟨⟨⟨⟨hx,hy⟩,⟨hN,hD⟩⟩,⟨h21,h21p⟩⟩,h26⟩=>K1 hF (a:=i.d.l) (b:=l21) (ra:=i.d.r) (rb:=v21) hD.1 (h21) (pd.dg) (p21.2.1) (pd.nz) (p21.2.2.1) (g0) (by omega) (by omega)) (fun c33=>QA (QD rfl)<|QA (QM rfl rfl)<|QA (QM rfl rfl)<|QA (QE rfl)<|QA (QE rfl)<|QF<|QC<|QG<|Xo _ (fun w F hF h=>And.intro h.2.1.2 h.2.1.1.2.1) (fun p33=>?_))
  obtain ⟨p33,n33⟩:=p33
  have en:W2 i.n.neg c26.1.2=(Rat.divInt i.zn i.zd).num:=j9 i.h pn (by rw [p26.2.2,p21.2.2.2,gg])
  have ed:dv B9 c33.1.2=((Rat.divInt i.zn i.zd).den:Int):=xA i.h pd (by rw [p33.2.2,p21.2.2.2,gg])
  have ed2:W2 false c33.1.2=((Rat.divInt i.zn i.zd).den:Int):=by rw [← ed];rfl
  have lnp:=KY p26.1 pn.dg p26.2.1 (by rw [p26.2.2];exact Int.ediv_le_self _ pn.v0)
  have lnq:=KY p33.1 pd.dg p33.2.1 (by rw [p33.2.2];exact Int.ediv_le_self _ pd.v0)
  have one1:=NP p33.1 p33.2.1
  have lr1:=Gt (Rat.divInt i.zn i.zd).num
  have lr2:=Gt ((Rat.divInt i.zn i.zd).den:Int)
  refine QB<|QA (QI rfl Zd Yu)<|QA (Qi rfl Yu (.there .here) (.here .nil))<|QA (QD rfl)<|QH rfl (fun w F hF ⟨⟨⟨⟨⟨hx,hy⟩,⟨hN,hD⟩⟩,⟨h21,h21p⟩⟩,h26⟩,h33⟩=>X2 hF (r:=c26.1.1) (l:=c26.1.2) (neg:=i.n.neg) h26.1.1 (p26.1) (by first | omega | (simp;omega))) (fun c39=>QH rfl (fun w F hF ⟨⟨⟨⟨⟨⟨hx,hy⟩,⟨hN,hD⟩⟩,⟨h21,h21p⟩⟩,h26⟩,h33⟩,h39⟩=>MA hF (zx:=(Rat.divInt i.zn i.zd).num) (by rw [← en];exact h39) (by omega)) (fun _=>QA (QE rfl)<|QF<|QC<|QG<|QG<|QB<|QA (QD rfl)<|QA (Qn rfl Qe)<|QA (QU rfl rfl rfl)<|QA (QD rfl) ?_))
  refine Qk (t:=44) rfl (fun hb44=>?_) (fun hb44=>?_)
  ·
   have hn1:c33.1.1.n=1:=by simp at hb44;omega
   refine QL rfl rfl<|QA (QD rfl)<|QL rfl rfl<|QA (JY (n:=c33.1.1.n) (0) (fun F ⟨⟨⟨⟨⟨⟨⟨hx,hy⟩,⟨hN,hD⟩⟩,⟨h21,h21p⟩⟩,h26⟩,h33⟩,h39⟩,_⟩=>(h33.1.1).1) rfl (congrArg (fun z:Int=>some (Value.int .i64 z)) (by omega)) Qe Qp (by omega))<|QL rfl rfl<|QA (Jf (n:=c33.1.1.n) ((0)*1) (fun F ⟨⟨⟨⟨⟨⟨⟨hx,hy⟩,⟨hN,hD⟩⟩,⟨h21,h21p⟩⟩,h26⟩,h33⟩,h39⟩,_⟩=>(h33.1.1).1) (by omega) rfl Qp (JL (o:=c33.1.2) (by omega)))<|QL rfl rfl<|QA (QU rfl rfl rfl)<|QA (Qj rfl rfl rfl)<|QF<|QC ?_
   refine QQ rfl (fun hc=>?_) (fun hc=>?_)
   ·
    refine QG<|QB<|QA (QD rfl)<|QA (QE rfl)<|QF<|QC<|QR ?_
    exact QN (()) rfl (.tmp rfl .nil) (by rw [← i.e];exact congrArg (fun l=>tx l) (F4 (by rw [← ed];exact one1.1 ⟨by omega,by simpa using hc⟩)).symm) (fun F ⟨⟨⟨⟨⟨⟨⟨hx,hy⟩,⟨hN,hD⟩⟩,⟨h21,h21p⟩⟩,h26⟩,h33⟩,h39⟩,_⟩=>trivial)
   ·
    refine QP<|QC<|QG<|QB<|QA (QD rfl)<|QA (XR rfl rfl (by simp;omega))<|QA (QD rfl)<|QH rfl (fun w F hF ⟨⟨⟨⟨⟨⟨⟨hx,hy⟩,⟨hN,hD⟩⟩,⟨h21,h21p⟩⟩,h26⟩,h33⟩,h39⟩,_⟩=>X2 hF (r:=c33.1.1) (l:=c33.1.2) (neg:=false) h33.1.1 (p33.1) (by first | omega | (simp;omega))) (fun c54=>QH rfl (fun w F hF ⟨⟨⟨⟨⟨⟨⟨⟨hx,hy⟩,⟨hN,hD⟩⟩,⟨h21,h21p⟩⟩,h26⟩,h33⟩,h39⟩,_⟩,h54⟩=>MA hF (zx:=((Rat.divInt i.zn i.zd).den:Int)) (by rw [← ed2];exact h54) (by omega)) (fun _=>QA (XR rfl rfl (by simp;omega))<|QA (QE rfl)<|QF<|QC<|QR ?_))
    exact QN (()) rfl (.tmp rfl .nil) (by rw [← i.e];exact congrArg (fun l=>tx l) (R8 (fun g=>by have:=one1.2 (by rw [ed];exact g);rw [this.2] at hc;simp at hc)).symm) (fun F ⟨⟨⟨⟨⟨⟨⟨⟨⟨hx,hy⟩,⟨hN,hD⟩⟩,⟨h21,h21p⟩⟩,h26⟩,h33⟩,h39⟩,_⟩,h54⟩,_⟩=>trivial)
  ·
   have hn1:c33.1.1.n≠1:=by simp at hb44;omega
   refine QO rfl rfl rfl<|QO rfl rfl rfl<|QO rfl rfl rfl<|QO rfl rfl rfl<|QA (Qh rfl rfl rfl)<|QF<|QC<|ZE rfl<|QP<|QC<|QG<|QB<|QA (QD rfl)<|QA (XR rfl rfl (by simp;omega))<|QA (QD rfl)<|QH rfl (fun w F hF ⟨⟨⟨⟨⟨⟨⟨hx,hy⟩,⟨hN,hD⟩⟩,⟨h21,h21p⟩⟩,h26⟩,h33⟩,h39⟩,_⟩=>X2 hF (r:=c33.1.1) (l:=c33.1.2) (neg:=false) h33.1.1 (p33.1) (by first | omega | (simp;omega))) (fun c54=>QH rfl (fun w F hF ⟨⟨⟨⟨⟨⟨⟨⟨hx,hy⟩,⟨hN,hD⟩⟩,⟨h21,h21p⟩⟩,h26⟩,h33⟩,h39⟩,_⟩,h54⟩=>MA hF (zx:=((Rat.divInt i.zn i.zd).den:Int)) (by rw [← ed2];exact h54) (by omega)) (fun _=>QA (XR rfl rfl (by simp;omega))<|QA (QE rfl)<|QF<|QC<|QR ?_))
   exact QN (()) rfl (.tmp rfl .nil) (by rw [← i.e];exact congrArg (fun l=>tx l) (R8 (fun g=>by have:=one1.2 (by rw [ed];exact g);omega)).symm) (fun F ⟨⟨⟨⟨⟨⟨⟨⟨⟨hx,hy⟩,⟨hN,hD⟩⟩,⟨h21,h21p⟩⟩,h26⟩,h33⟩,h39⟩,_⟩,h54⟩,_⟩=>trivial)
end
section
open Go.RowKit Ig
def YL (x:Rat):Rat:=if x.num<0 then -x else x
theorem Oz (x:Rat):(YL x).num=(x.num.natAbs:Int)∧(YL x).den=x.den:=by
 unfold YL;split
 ·exact⟨by rw [Rat.neg_num];omega,by rw [Rat.neg_den]⟩
 ·exact⟨by omega,rfl⟩
theorem LB {z:Int} (h:z<0):Xc z=45::Xc (-z):=by
 rw [Zj h,Jh (z:=-z) (by omega)];congr 2;omega
theorem Bi {x:Rat} (h:x.num<0):Qy x=45::Qy (-x):=by
 unfold Qy
 rw [Rat.neg_num,Rat.neg_den,LB h]
 split<;>rfl
theorem Vu (x:Rat):Lib.hasPrefix (Qy x) [45]=decide (x.num<0):=by
 by_cases h:x.num<0
 ·rw [Bi h];simp [Lib.hasPrefix,List.isPrefixOf,h]
 ·have e:(decide (x.num<0))=false:=by simpa using h
  rw [e]
  unfold Qy
  rw [Jh (by omega)]
  have hd:=JZ x.num.natAbs
  split
  ·exact KJ hd
  ·have hne:=Y4 x.num.natAbs
   cases hl:Lib.decDigits x.num.natAbs with
   |nil=>exact absurd hl hne
   |cons c r =>
    have:=KJ hd
    rw [hl] at this
    simpa [Lib.hasPrefix,List.isPrefixOf] using this
theorem Ts (x:Rat):Lib.trimPrefix (Qy x) [45]=Qy (YL x):=by
 unfold Lib.trimPrefix YL
 rw [Vu]
 by_cases h:x.num<0
 ·rw [if_pos (by simpa using h),if_pos h,Bi h];rfl
 ·rw [if_neg (by simpa using h),if_neg h]
theorem OV (x:Rat):JQ (YL x)=JQ x:=by
 unfold YL;split
 ·exact Ky x
 ·rfl
def xa (x:Rat) (c:Int×Int×Bool):Prop:=c.2.2=true→c.1=x.num∧c.2.1=(x.den:Int)∧x.num.natAbs<1000000000∧x.den<1000000000
theorem NF {l:List UInt8} (h:XF l=true) (hl:l.length≤9):Q9 l<1000000000:=by
 have h1:=VQ h
 have h2:10^l.length≤10^9:=Nat.pow_le_pow_right (by decide) hl
 omega
theorem Be {w:World} {F:Gs} {x:Rat} (hF:Fits F w) (hl:JQ x≤100000):QT Tryz.prog 194 [tx (Qy x)] w F (fun(c:Int×Int×Bool)=>.tuple #[.int .i64 c.1,.int .i64 c.2.1,.bool c.2.2]) (fun c _=>xa x c):=by
 have hlen:=YB x
 have hlen2:=YB (YL x)
 rw [OV] at hlen2
 obtain ⟨an,ad⟩:=Oz x
 have hah:=Y5 Jp (Qy (YL x))
 have anT:Xc (YL x).num=Lib.decDigits x.num.natAbs:=by rw [an,Jh (by omega)];rfl
 refine QT.intro (G:=fun F=>True) Tryz.func194 rfl (by rfl) rfl rfl hF (fun F' hF'=>trivial)<|QG<|QB<|QA (QE rfl)<|QA (QE rfl)<|QA (QE rfl)<|QF<|QC<|QG<|QB<|QA (QD rfl)<|QA (QE rfl)<|QF<|QC<|QG<|QG<|QB<|QA (QD rfl)<|QA (Jq rfl J8)<|QA (QU rfl rfl rfl)<|QF<|QC ?_
 refine QQ rfl (fun hc=>?_) (fun hc=>?_)
 ·
  refine QG<|QB<|QA (QE rfl)<|QA (QE rfl)<|QA (QE rfl)<|QF<|QC<|QR ?_
  exact Jb ((0,0,false):Int×Int×Bool) rfl (.tmp rfl (.tmp rfl (.tmp rfl .nil))) (rfl) (fun F hT=>fun h=>by cases h)
 ·
  refine QP<|QC ?_
  refine Ze [(5,_)] [(6,.bool (decide (x.num<0)))] ⟨rfl,trivial⟩ ?_ ?_
  ·
   refine QB<|QA (QD rfl)<|QA (Jq rfl J8)<|QA (QU rfl rfl rfl)<|QA (QD rfl) ?_
   refine Qk (t:=17) rfl (fun hb17=>?_) (fun hb17=>?_)
   ·
    refine QL rfl rfl<|QA (QD rfl)<|QL rfl rfl<|QA (KI (i:=0) rfl rfl J8 (by have:=of_decide_eq_true hb17;omega))<|QL rfl rfl<|QA (QU rfl rfl rfl)<|QA (Qj rfl rfl rfl)<|QA (QE rfl)<|QF ?_
    exact J2 ⟨rfl,(congrArg (fun b=>some (Value.bool b)) (by have h0:0<(Qy x).length:=(by have:=of_decide_eq_true hb17;omega);rw [← Vu,Y1 h0];exact GA rfl)),trivial⟩ (List.Sublist.refl _) (fun _ h=>h)
   ·
    refine QO rfl rfl rfl<|QO rfl rfl rfl<|QO rfl rfl rfl<|QA (Qh rfl rfl rfl)<|QA (QE rfl)<|QF ?_
    exact J2 ⟨rfl,(congrArg (fun b=>some (Value.bool b)) (by have h0:(Qy x).length=0:=(by have:=of_decide_eq_false hb17;omega);rw [← Vu,List.eq_nil_of_length_eq_zero h0];rfl)),trivial⟩ (List.Sublist.refl _) (fun _ h=>h)
  ·
   simp only [List.cons_append,List.nil_append]
   refine Ze [(6,_)] [(5,tx (Qy (YL x)))] ⟨rfl,trivial⟩ ?_ ?_
   ·
    refine QG<|QB<|QA (QD rfl)<|QF<|QC ?_
    refine QQ rfl (fun hc=>?_) (fun hc=>?_)
    ·
     refine QB<|QA (QD rfl)<|QA (Zu (1) rfl rfl J8 rfl (by have:=Hy (s:=Qy x) (by rw [Vu];exact hc);omega))<|QA (QE rfl)<|QF ?_
     exact J2 ⟨rfl,(congrArg (fun l=>some (tx l)) (by rw [← Ts];unfold Lib.trimPrefix;rw [if_pos (by rw [Vu];exact hc)];rfl)),trivial⟩ (List.Sublist.refl _) (fun _ h=>h)
    ·
     refine QP ?_
     exact J2 ⟨rfl,(congrArg (fun l=>some (tx l)) (by rw [← Ts];unfold Lib.trimPrefix;rw [Vu,hc];rfl)),trivial⟩ (List.Sublist.refl _) (fun _ h=>h)
   ·
    simp only [List.cons_append,List.nil_append]
    refine QG<|QB<|QA (QD rfl)<|QH rfl (fun w F hF hT=>VP hF (by omega)) (fun _=>QA (QE rfl)<|QF<|QC<|QG<|QG<|QB<|QA (QD rfl)<|QA (QU rfl rfl rfl)<|QA (QD rfl) ?_)
    refine Qk (t:=29) rfl (fun hb29=>?_) (fun hb29=>?_)
    ·
     refine QO rfl rfl rfl<|QO rfl rfl rfl<|QO rfl rfl rfl<|QO rfl rfl rfl<|QO rfl rfl rfl<|QA (Qj rfl rfl rfl)<|QF<|QC<|VC rfl<|QG<|QB<|QA (QE rfl)<|QA (QE rfl)<|QA (QE rfl)<|QF<|QC<|QR ?_
     exact Jb ((0,0,false):Int×Int×Bool) rfl (.tmp rfl (.tmp rfl (.tmp rfl .nil))) (rfl) (fun F ⟨hT,_⟩=>fun h=>by cases h)
    ·
     refine QL rfl rfl<|QA (QD rfl)<|QL rfl rfl<|QA (Jq rfl J8)<|QL rfl rfl<|QA (QD rfl)<|QL rfl rfl<|QA (Jx rfl rfl (by omega))<|QL rfl rfl<|QA (QU rfl rfl rfl)<|QA (Qh rfl rfl rfl)<|QF<|QC ?_
     refine QQ rfl (fun hc=>?_) (fun hc=>?_)
     ·
      refine QG<|QB<|QA (QE rfl)<|QA (QE rfl)<|QA (QE rfl)<|QF<|QC<|QR ?_
      exact Jb ((0,0,false):Int×Int×Bool) rfl (.tmp rfl (.tmp rfl (.tmp rfl .nil))) (rfl) (fun F ⟨hT,_⟩=>fun h=>by cases h)
     ·
      have k9:ahead Jp (Qy (YL x))≤9∧(Qy (YL x)).length - ahead Jp (Qy (YL x))≤10:=by
       have ha:=Y5 Jp (Qy (YL x))
       first | (simp at hc hb29;omega) | (simp at hc;omega)
      have kt:(Qy (YL x)).take (ahead Jp (Qy (YL x)))=Xc (YL x).num:=by
       by_cases hd:(YL x).den=1
       ·obtain ⟨e1,e2⟩:=Hu hd
        rw [e2,List.take_length,e1]
       ·exact(Kl hd).2.2.1
      have kr:Q9 ((Qy (YL x)).take (ahead Jp (Qy (YL x))))=x.num.natAbs:=by rw [kt,anT,XS]
      have hnum:x.num.natAbs<1000000000:=by
       have h1:=NF (l:=Xc (YL x).num) (by rw [anT];exact JZ _) (by rw [← kt,List.length_take];omega)
       rw [anT,XS] at h1;exact h1
      have hdn:x.den<1000000000:=by
       rw [← ad]
       by_cases hd:(YL x).den=1
       ·omega
       ·obtain ⟨e1,e2,e3,e4⟩:=Kl hd
        have h1:=NF (l:=Lib.decDigits (YL x).den) (JZ _) (by rw [← e4,List.length_drop];omega)
        rw [XS] at h1;exact h1
      refine QP<|QC<|QG<|QB<|QA (QD rfl)<|QA (QD rfl)<|QA (Vv (ahead Jp (Qy (YL x))) rfl rfl J8 rfl (by omega))<|QH rfl (fun w F hF ⟨hT,_⟩=>Bb hF (by rw [kt,anT];exact JZ _) (by rw [List.length_take];omega)) (fun _=>?_)
      rw [kr]
      refine QA (QE rfl)<|QA (QE rfl)<|QF<|QC ?_
      refine Ze [(6,_),(8,_)] [(9,.int .i64 (x.den:Int))] ⟨rfl,rfl,trivial⟩ ?_ ?_
      ·
       refine QG<|QB<|QA (QD rfl)<|QA (QD rfl)<|QA (Jq rfl J8)<|QA (QU rfl rfl rfl)<|QF<|QC ?_
       refine QQ rfl (fun hc=>?_) (fun hc=>?_)
       ·
        have hlt:=of_decide_eq_true hc
        have hd:¬ (YL x).den=1:=fun g=>by have:=(Hv (YL x)).2 g;have:=of_decide_eq_true hc;omega
        have kd:=(Kl hd).2.2.2
        have kd2:Q9 ((Qy (YL x)).drop (ahead Jp (Qy (YL x))+1))=x.den:=by rw [kd,XS,ad]
        refine QB<|QA (QD rfl)<|QA (QD rfl)<|QA (Qu rfl rfl (by omega))<|QA (Zu ((ahead Jp (Qy (YL x))+1)) rfl rfl J8 (congrArg (fun z:Int=>some (Value.int .i64 z)) (by omega)) (by omega))<|QH rfl (fun w F hF ⟨⟨hT,_⟩,_⟩=>Bb hF (by rw [kd];exact JZ _) (by rw [List.length_drop];omega)) (fun _=>?_)
        rw [kd2]
        refine QA (QE rfl)<|QF ?_
        exact J2 ⟨rfl,rfl,rfl,trivial⟩ (List.Sublist.refl _) (fun _ h=>h.1)
       ·
        have hd:(YL x).den=1:=(Hv (YL x)).1 (by have:=of_decide_eq_false hc;have:=Y5 Jp (Qy (YL x));omega)
        refine QP ?_
        exact J2 ⟨rfl,rfl,(congrArg (fun z:Int=>some (Value.int .i64 z)) (by rw [← ad,hd];rfl)),trivial⟩ (List.Sublist.refl _) (fun _ h=>h)
      ·
       simp only [List.cons_append,List.nil_append]
       have hden:x.den<1000000000:=hdn
       refine Ze [(9,_)] [(8,.int .i64 (x.num))] ⟨rfl,trivial⟩ ?_ ?_
       ·
        refine QG<|QB<|QA (QD rfl)<|QF<|QC ?_
        refine QQ rfl (fun hc=>?_) (fun hc=>?_)
        ·
         refine QB<|QA (QD rfl)<|QA (Jx rfl rfl (by omega))<|QA (QE rfl)<|QF ?_
         exact J2 ⟨rfl,(congrArg (fun z:Int=>some (Value.int .i64 z)) (by have:=of_decide_eq_true hc;omega)),trivial⟩ (List.Sublist.refl _) (fun _ h=>h)
        ·
         refine QP ?_
         exact J2 ⟨rfl,(congrArg (fun z:Int=>some (Value.int .i64 z)) (by have:=of_decide_eq_false hc;omega)),trivial⟩ (List.Sublist.refl _) (fun _ h=>h)
       ·
        simp only [List.cons_append,List.nil_append]
        refine QG<|QB<|QA (QD rfl)<|QA (QD rfl)<|QA (QE rfl)<|QA (QE rfl)<|QA (QE rfl)<|QF<|QC<|QR ?_
        exact Jb ((x.num,(x.den:Int),true):Int×Int×Bool) rfl (.tmp rfl (.tmp rfl (.tmp rfl .nil))) (rfl) (fun F ⟨⟨hT,_⟩,_⟩=>fun _=>⟨rfl,rfl,hnum,hden⟩)
end
end Go.Proofs.YtknegjaeoffnbaaGreatDoor
