/- Steps of the proof of the theorem in the last file. -/
import Derived.Test.YtknegjaeoffnbaaGreatDoorP3
import Derived.RangeFuncLeaves
import Derived.RangeFuncSeq
import Derived.OwnWalkIn
import Derived.OrdersIn
import Derived.ChangeKeysEq
set_option linter.all false
namespace Go.Proofs.YtknegjaeoffnbaaGreatDoor
section
open Go.RowKit Ig
def vE (v n:Int):Int:=if decide (v<0)=true∨decide (v>n)=true then 10 else 0
theorem vM {v n:Int} (h:decide (v<0)=true):vE v n=if true=true then 10 else 0:=by unfold vE;rw [if_pos (Or.inl h)];rfl
theorem vN {v n:Int} (h:decide (v<0)=false):vE v n=if decide (v>n)=true then 10 else 0:=by unfold vE;rw [h];simp
theorem xT {v n:Int} (h:vE v n=0):0≤v∧v≤n:=by
 unfold vE at h
 simp only [decide_eq_true_eq] at h
 split at h<;>omega
def yw (a:VF) (n v:Int) (l:List Tm):Int:=if Qj [WK [a] n,vE v n]=0 then Da l else Qj [WK [a] n,vE v n]
def yv (a:VF) (n v:Int) (l:List Tm):Pt:=if Qj [WK [a] n,vE v n]=0 then PK l else []
theorem Yx.wide {p:Pt} {v:Int} (h:Yx p v):∀ t∈JM p,(t.2.length:Int)=v+1:=fun t ht=>by
 unfold JM at ht
 obtain ⟨x,hx,rfl⟩:=List.mem_map.1 ht
 exact(VI (h.term x hx)).1
theorem NR {v:Nat} {l:List Tm} {x:Tm} (h:x∈Ki v l):∃ t∈l,0<Qf t.2 v∧x=(t.1*((Qf t.2 v:Int):Rat),t.2.set v (Qf t.2 v - 1)):=by
 unfold Ki at h
 obtain ⟨t,ht,h⟩:=List.mem_flatMap.1 h
 unfold FZ at h
 split at h
 ·rename_i g;rw [List.mem_singleton] at h;exact⟨t,ht,g,h⟩
 ·cases h
theorem IV {v:Nat} {l:List Tm} (h:∀ t∈l,JX t.1≤2400∧PW t.2∧v<t.2.length):∀ x∈Ki v l,JX x.1≤2500:=fun x hx=>by
 obtain ⟨t,ht,_,rfl⟩:=NR hx
 obtain ⟨h1,h2,h3⟩:=h t ht
 have h4:=J2 t.1 ((Qf t.2 v:Int):Rat)
 have h5:=Gc (Qf t.2 v)
 have h6:=Rj (h2.el h3)
 dsimp only;omega
theorem Sc {w:World} {F:Gs} {a:VF} {n v:Int} (hF:Fits F w) (hGl:JC F) (hA:YO F [a]) (ht:∀ e∈[a],Vj e) :
  QT Tryz.prog 41 [a.1.v,.int .i64 n,.int .i64 v] w F (fun(c:VF)=>.tuple #[c.1.v,.int .i64 (yw a n v (XH (Ki v.toNat (JM (XG a.2)))))]) (fun c F=>Vh F c.1 c.2 (yv a n v (XH (Ki v.toNat (JM (XG a.2)))))):=by
 have ha:a∈[a]:=by simp
 dsimp only [Sr.v]
 refine QT.intro (G:=fun F=>JC F∧YO F [a]) Tryz.func41 rfl (by rfl) rfl rfl hF (fun F' hF'=>⟨hGl.le hF',hA.le hF'⟩)<|QG<|QB<|QA (QE rfl)<|QA (QE rfl)<|QF<|QD<|QG<|QG<|QB<|QA (QC rfl)<|QA (QC rfl)<|QV rfl (Q8 EA) Mm zB rfl rfl (fun b11=>QH rfl (fun w F hF ⟨⟨hGl,hA⟩,hs11⟩=>H6 hF hGl (JF.of (n:=1) (sz:=1) (cs:=[a].map fun e=>e.1.v) hs11 rfl) (hA) (rfl) (by decide) (ht)) (fun _=>QA (QC rfl)<|QA (QU rfl rfl rfl)<|QA (QC rfl) ?_))
 refine Qk (t:=15) rfl (fun hb15=>?_) (fun hb15=>?_)
 ·
  have hve:=vM (n:=n) hb15
  refine QR rfl rfl rfl<|QR rfl rfl rfl<|QR rfl rfl rfl<|QA (Qi rfl rfl rfl)<|QH rfl (fun w F hF ⟨⟨⟨hGl,hA⟩,hs11⟩,_⟩=>Zx hF ) (fun _=>QV rfl (Q8 Zn) Y3 BA rfl rfl (fun b21=>QH rfl (fun w F hF ⟨⟨⟨⟨⟨hGl,hA⟩,hs11⟩,_⟩,_⟩,hs21⟩=>YB hF (JF.of (cs:=List.map Qz [WK [a] n,vE v n]) (by rw [hve];exact hs21) rfl) (by decide)) (fun _=>QA (QE rfl)<|QF<|QD<|QG<|QB<|QA (QC rfl)<|QA (QU rfl rfl rfl)<|QF<|QD ?_)))
  refine QO rfl (fun hc=>?_) (fun hc=>?_)
  ·
   have hc0:=bne_iff_ne.1 hc
   refine QG<|QB<|QA (QC rfl)<|QA (QE rfl)<|QA (QE rfl)<|QF<|QD<|QS ?_
   exact JH ((⟨none,0,0⟩,[])) rfl (.tmp rfl (.tmp rfl .nil)) (by unfold yw;rw [if_neg hc0]) (fun F ⟨⟨⟨⟨⟨⟨hGl,hA⟩,hs11⟩,_⟩,_⟩,hs21⟩,_⟩=>by unfold yv;rw [if_neg hc0];exact Vh.nil F)
  ·
   have hc0:=bne_eq_false_iff_eq.1 hc
   obtain ⟨hc1,hc2⟩:=VT hc0
   obtain ⟨hn,hok⟩:=MJ hc1
   have hv:=xT hc2
   obtain ⟨k,rfl⟩:=Int.eq_ofNat_of_zero_le hv.1
   rw [Int.toNat_natCast]
   have oa:=hok a ha
   have sa:=oa.Zj
   have hpa:∀ t∈JM (XG a.2),PW t.2∧k<t.2.length:=fun t ht=>⟨oa.pw hn.2 t ht,by have:=oa.wide t ht;omega⟩
   have la:(JM (XG a.2)).length≤64:=by unfold JM;rw [List.length_map];exact oa.len
   have hds:=IV (v:=k) (l:=JM (XG a.2)) fun t ht=>⟨oa.sz t ht,hpa t ht⟩
   have hdl:=Nv k (JM (XG a.2))
   have hdz:=DW hds
   have hdz2:=Nat.mul_le_mul_right 2501 (Nat.le_trans hdl la)
   have hpn:=NL (l:=Ki k (JM (XG a.2))) fun t ht=>by
    obtain ⟨y,hy,hk,e⟩:=NR ht
    rw [e];exact(hpa y hy).1.set hk
   have hln:=WG (Ki k (JM (XG a.2)))
   refine QN<|QD<|QG<|QB<|QA (QC rfl)<|QH rfl (fun w F hF ⟨⟨⟨⟨⟨⟨hGl,hA⟩,hs11⟩,_⟩,_⟩,hs21⟩,_⟩=>Vn hF hGl (a:=a) (hA a ha).1 (hA a ha).2 (ht a ha) oa hn) (fun c27=>JK _ (fun w F hF h=>And.intro h.2.2.2.1 h.2.len) (fun h27p=>?_))
   obtain ⟨e27,l27⟩:=h27p
   refine QA (QC rfl)<|QH rfl (fun w F hF ⟨⟨⟨⟨⟨⟨⟨hGl,hA⟩,hs11⟩,_⟩,_⟩,hs21⟩,_⟩,h27⟩=>CN hF hGl (p:=c27) (v:=k) (by rw [e27];exact h27) (XJ (Q:=fun t=>PW t.2∧k<t.2.length) e27 hpa) (by omega) (XJ (Q:=fun t=>JX t.1≤20000000) e27 (fun t ht=>by have:=oa.sz t ht;omega)) (by rw [e27];omega)) (fun c29=>JK _ (fun w F hF h=>And.intro h.2.2.2.1 h.2.len) (fun h29p=>?_))
   obtain ⟨e29,l29⟩:=h29p
   rw [e27] at e29 l29
   refine QH rfl (fun w F hF ⟨⟨⟨⟨⟨⟨⟨⟨hGl,hA⟩,hs11⟩,_⟩,_⟩,hs21⟩,_⟩,h27⟩,h29⟩=>GB hF (q:=c29.1.q) (n:=c29.1.n) (cap:=c29.1.cap) (ts:=c29.2) (by rw [e29];rw [e27] at h29;exact h29) hGl (XJ (Q:=fun t=>PW t.2) e29 hpn) (XJ (Q:=fun t=>JX t.1≤100000000) e29 (fun t ht=>Nat.le_trans (DV ht) (by omega))) (by omega)) (fun c30=>?_)
   rw [e29]
   refine QA (QK rfl rfl)<|QA (QK rfl rfl)<|QA (QE rfl)<|QA (QE rfl)<|QF<|QD<|QS ?_
   exact JH (c30) rfl (.tmp rfl (.tmp rfl .nil)) (by unfold yw;rw [if_pos hc0];rfl) (fun F ⟨⟨⟨⟨⟨⟨⟨⟨⟨hGl,hA⟩,hs11⟩,_⟩,_⟩,hs21⟩,_⟩,h27⟩,h29⟩,h30⟩=>by unfold yv;rw [if_pos hc0];exact h30)
 ·
  have hve:=vN (n:=n) hb15
  refine QJ rfl rfl<|QA (QC rfl)<|QJ rfl rfl<|QA (QC rfl)<|QJ rfl rfl<|QA (QU rfl rfl rfl)<|QA (Qh rfl rfl rfl)<|QH rfl (fun w F hF ⟨⟨⟨hGl,hA⟩,hs11⟩,_⟩=>Zx hF ) (fun _=>QV rfl (Q8 Zn) Y3 BA rfl rfl (fun b21=>QH rfl (fun w F hF ⟨⟨⟨⟨⟨hGl,hA⟩,hs11⟩,_⟩,_⟩,hs21⟩=>YB hF (JF.of (cs:=List.map Qz [WK [a] n,vE v n]) (by rw [hve];exact hs21) rfl) (by decide)) (fun _=>QA (QE rfl)<|QF<|QD<|QG<|QB<|QA (QC rfl)<|QA (QU rfl rfl rfl)<|QF<|QD ?_)))
  refine QO rfl (fun hc=>?_) (fun hc=>?_)
  ·
   have hc0:=bne_iff_ne.1 hc
   refine QG<|QB<|QA (QC rfl)<|QA (QE rfl)<|QA (QE rfl)<|QF<|QD<|QS ?_
   exact JH ((⟨none,0,0⟩,[])) rfl (.tmp rfl (.tmp rfl .nil)) (by unfold yw;rw [if_neg hc0]) (fun F ⟨⟨⟨⟨⟨⟨hGl,hA⟩,hs11⟩,_⟩,_⟩,hs21⟩,_⟩=>by unfold yv;rw [if_neg hc0];exact Vh.nil F)
  ·
   have hc0:=bne_eq_false_iff_eq.1 hc
   obtain ⟨hc1,hc2⟩:=VT hc0
   obtain ⟨hn,hok⟩:=MJ hc1
   have hv:=xT hc2
   obtain ⟨k,rfl⟩:=Int.eq_ofNat_of_zero_le hv.1
   rw [Int.toNat_natCast]
   have oa:=hok a ha
   have sa:=oa.Zj
   have hpa:∀ t∈JM (XG a.2),PW t.2∧k<t.2.length:=fun t ht=>⟨oa.pw hn.2 t ht,by have:=oa.wide t ht;omega⟩
   have la:(JM (XG a.2)).length≤64:=by unfold JM;rw [List.length_map];exact oa.len
   have hds:=IV (v:=k) (l:=JM (XG a.2)) fun t ht=>⟨oa.sz t ht,hpa t ht⟩
   have hdl:=Nv k (JM (XG a.2))
   have hdz:=DW hds
   have hdz2:=Nat.mul_le_mul_right 2501 (Nat.le_trans hdl la)
   have hpn:=NL (l:=Ki k (JM (XG a.2))) fun t ht=>by
    obtain ⟨y,hy,hk,e⟩:=NR ht
    rw [e];exact(hpa y hy).1.set hk
   have hln:=WG (Ki k (JM (XG a.2)))
   refine QN<|QD<|QG<|QB<|QA (QC rfl)<|QH rfl (fun w F hF ⟨⟨⟨⟨⟨⟨hGl,hA⟩,hs11⟩,_⟩,_⟩,hs21⟩,_⟩=>Vn hF hGl (a:=a) (hA a ha).1 (hA a ha).2 (ht a ha) oa hn) (fun c27=>JK _ (fun w F hF h=>And.intro h.2.2.2.1 h.2.len) (fun h27p=>?_))
   obtain ⟨e27,l27⟩:=h27p
   refine QA (QC rfl)<|QH rfl (fun w F hF ⟨⟨⟨⟨⟨⟨⟨hGl,hA⟩,hs11⟩,_⟩,_⟩,hs21⟩,_⟩,h27⟩=>CN hF hGl (p:=c27) (v:=k) (by rw [e27];exact h27) (XJ (Q:=fun t=>PW t.2∧k<t.2.length) e27 hpa) (by omega) (XJ (Q:=fun t=>JX t.1≤20000000) e27 (fun t ht=>by have:=oa.sz t ht;omega)) (by rw [e27];omega)) (fun c29=>JK _ (fun w F hF h=>And.intro h.2.2.2.1 h.2.len) (fun h29p=>?_))
   obtain ⟨e29,l29⟩:=h29p
   rw [e27] at e29 l29
   refine QH rfl (fun w F hF ⟨⟨⟨⟨⟨⟨⟨⟨hGl,hA⟩,hs11⟩,_⟩,_⟩,hs21⟩,_⟩,h27⟩,h29⟩=>GB hF (q:=c29.1.q) (n:=c29.1.n) (cap:=c29.1.cap) (ts:=c29.2) (by rw [e29];rw [e27] at h29;exact h29) hGl (XJ (Q:=fun t=>PW t.2) e29 hpn) (XJ (Q:=fun t=>JX t.1≤100000000) e29 (fun t ht=>Nat.le_trans (DV ht) (by omega))) (by omega)) (fun c30=>?_)
   rw [e29]
   refine QA (QK rfl rfl)<|QA (QK rfl rfl)<|QA (QE rfl)<|QA (QE rfl)<|QF<|QD<|QS ?_
   exact JH (c30) rfl (.tmp rfl (.tmp rfl .nil)) (by unfold yw;rw [if_pos hc0];rfl) (fun F ⟨⟨⟨⟨⟨⟨⟨⟨⟨hGl,hA⟩,hs11⟩,_⟩,_⟩,hs21⟩,_⟩,h27⟩,h29⟩,h30⟩=>by unfold yv;rw [if_pos hc0];exact h30)
end
section
open Go.RowKit Ig
def yr (F:Gs) (xs:List (Fr×Rat)):Prop:=∀ p∈xs,JV F p.1 p.2
theorem yr.le {F F':Gs} {xs:List (Fr×Rat)} (h:yr F xs) (k:Gs.le F F'):yr F' xs:=fun p hp=>(h p hp).le k
def vj (xs:List (Fr×Rat)):List Value:=xs.flatMap fun p=>Cy p.1
structure kj (ss:List (List UInt8)) where
 i:Nat
 xs:List (Fr×Rat)
 le:i≤ss.length
 hx:xs.map (·.2)=(ss.take i).map JA
theorem kj.len {ss:List (List UInt8)} (s:kj ss):s.xs.length=s.i:=by
 have:=congrArg List.length s.hx
 have h:=s.le
 simp only [List.length_map,List.length_take] at this;omega
end
section
open Go.RowKit Ig
def gm (c:Rat) (xs:List Rat) (ks:List Int) (i:Nat):Rat:=(List.range i).foldl (fun a j=>a*(el xs j)^(Qf ks j).toNat) c
structure dT (n:Nat) where
 i:Nat
 x:Fr
 le:i≤n
structure dU (n:Nat) where
 j:Nat
 y:Fr
 le:j≤n
instance :Inhabited Fr:=⟨⟨⟨0,none,0,0⟩,⟨1,none,0,0⟩⟩⟩
instance :Inhabited (Fr×Rat):=⟨(default,0)⟩
end
section
open Go.RowKit Ig
theorem FK {l:List Int} (h:Qj l=0):∀ x∈l,x=0:=by
 induction l with
 |nil=>intro x hx;cases hx
 |cons a l ih =>
  intro x hx
  unfold Qj at h
  by_cases g:a=0
  ·rw [if_pos g] at h
   rcases List.mem_cons.1 hx with rfl | hx
   ·exact g
   ·exact ih h x hx
  ·rw [if_neg g] at h;exact absurd h g
end
section
open Go.RowKit Ig
end
section
open Go.RowKit Ig
end
section
open Go.RowKit Ig
def TI (s:List UInt8×List UInt8):List Value:=[tx s.1,tx s.2]
def C4 (ss:List (List UInt8×List UInt8)):List Rat:=ss.flatMap fun s=>[JA s.1,JA s.2]
theorem Pf {B:Nat}:∀ (l:List Rat) (s:Rat×Rat),JX s.1≤B→JX s.2≤B→(∀ x∈l,JX x≤B)→JX (l.foldl Yq s).1≤B∧JX (l.foldl Yq s).2≤B
 |[],s,h1,h2,_=>⟨h1,h2⟩
 |x::l,s,h1,h2,h=>by
  have hx:=h x (by simp)
  exact Pf l (Yq s x) (by unfold Yq;dsimp only;split<;>assumption) (by unfold Yq;dsimp only;split<;>assumption) fun y hy=>h y (by simp [hy])
structure kh (ss:List (List UInt8×List UInt8)) where
 i:Nat
 v:Value
 ob:List (Nat×Obj)
 xs:List (Fr×Rat)
 le:i≤ss.length
 hr:Q4 130 4 v (i*2) (vj xs) ob
 hx:xs.map (·.2)=C4 (ss.take i)
theorem Lh (ss:List (List UInt8×List UInt8)):(C4 ss).length=ss.length*2:=by
 unfold C4
 induction ss with
 |nil=>rfl
 |cons s l ih=>rw [List.flatMap_cons,List.length_append,ih];simp only [List.length_cons,List.length_nil];omega
theorem kh.len {ss:List (List UInt8×List UInt8)} (s:kh ss):s.xs.length=s.i*2:=by
 have:=congrArg List.length s.hx
 have h:=s.le
 rw [Lh] at this
 simp only [List.length_map,List.length_take] at this;omega
end
section
open Go.RowKit Ig
structure yh (a b:List Int) where
 i:Nat
 le:i≤a.length
 h:a.take i=b.take i
structure vA (a b:List Int) where
 i:Nat
 le:i≤a.length
 h:Zs a b=Zs (a.drop i) (b.drop i)
theorem yh.next {a b:List Int} (s:yh a b) (h1:s.i<a.length) (h2:s.i<b.length) (e:Qf a s.i=Qf b s.i):a.take (s.i+1)=b.take (s.i+1):=by
 rw [ZL h1,ZL h2,s.h,← X9 h1,← X9 h2,e]
theorem vA.step {a b:List Int} (s:vA a b) (h1:s.i<a.length) (h2:s.i<b.length):Zs a b=(decide (Qf b s.i<Qf a s.i)||(decide (Qf a s.i=Qf b s.i)&&Zs (a.drop (s.i+1)) (b.drop (s.i+1)))):=by
 rw [s.h,J8 h1,J8 h2];rfl
theorem TV {w:World} {F:Gs} {q q2:Option Addr} {n c n2 c2:Nat} {a b:List Int} (hF:Fits F w) (hA:JP F ⟨q,n,c⟩ a) (hB:JP F ⟨q2,n2,c2⟩ b) (la:a.length≤1000000):QW Tryz.prog 140 [.slice q n c,.slice q2 n2 c2] w F (.bool (decide (a=b))):=by
 have na:=hA.2.1
 have nb:=hB.2.1
 dsimp only at na nb
 refine QT.intro (G:=fun F=>JP F ⟨q,n,c⟩ a∧JP F ⟨q2,n2,c2⟩ b) Tryz.func140 rfl (by rfl) rfl rfl hF (fun F' hF'=>⟨hA.le hF',hB.le hF'⟩)<|QG<|QB<|QA (QE rfl)<|QF<|QD<|QG<|QG<|QB<|QA (QC rfl)<|QA (Ql rfl Qe)<|QA (QC rfl)<|QA (Ql rfl Qe)<|QA (QU rfl rfl rfl)<|QF<|QD ?_
 refine QO rfl (fun hc=>?_) (fun hc=>?_)
 ·
  have hne:=bne_iff_ne.1 hc
  refine QG<|QB<|QA (QE rfl)<|QF<|QD<|QS ?_
  exact QQ (()) rfl (.tmp rfl .nil) (congrArg Value.bool (decide_eq_false (fun e=>hne (by rw [← na,← nb,e])))) (fun F ⟨hA,hB⟩=>trivial)
 ·
  have hne:=bne_eq_false_iff_eq.1 hc
  refine QN<|QD<|QG<|QG<|QB<|QA (QE rfl)<|QF<|QD<|Qa<|YU (ι:=yh a b) [(0,_),(1,_)] (fun i=>[(5,.int .i64 ((i.i:Nat):Int))]) (fun i=>a.length - i.i) (⟨0,Nat.zero_le _,rfl⟩) ⟨rfl,rfl,trivial⟩ ⟨rfl,trivial⟩ (fun i=>?_)
  simp only [List.cons_append,List.nil_append]
  have hi:=i.le
  refine QG<|QG<|QB<|QA (QC rfl)<|QA (QC rfl)<|QA (Ql rfl Qe)<|QA (QU rfl rfl rfl)<|QF<|QD ?_
  refine QO rfl (fun hc=>?_) (fun hc=>?_)
  ·
   have hlt:i.i<a.length:=by have:=of_decide_eq_true hc;omega
   refine QN<|QD<|QG<|Qa<|QG<|JQ (List.Sublist.refl _) mixed (by kernel_rfl)<|QM (QC rfl)<|QM (QC rfl)<|QM (Jc (n:=n) (i.i) (fun F ⟨hA,hB⟩=>(hA).1) rfl rfl Qe Qu (by omega))<|QM (Ji (n:=n) ((i.i)*1) (fun F ⟨hA,hB⟩=>(hA).1) (by omega) rfl Qu (JR (o:=a) (by omega)))<|QM (QC rfl)<|QM (QC rfl)<|QM (Jc (n:=n2) (i.i) (fun F ⟨hA,hB⟩=>(hB).1) rfl rfl Qe Qu (by omega))<|QM (Ji (n:=n2) ((i.i)*1) (fun F ⟨hA,hB⟩=>(hB).1) (by omega) rfl Qu (JR (o:=b) (by omega)))<|QM (QU rfl rfl rfl)<|Q3<|QD ?_
   refine QO rfl (fun hc=>?_) (fun hc=>?_)
   ·
    have he:=bne_iff_ne.1 hc
    refine QG<|QB<|QA (QE rfl)<|QF<|QD<|QS ?_
    repeat (first | refine JN ?_ | refine JE ?_)
    exact QQ (()) rfl (.tmp rfl .nil) (congrArg Value.bool (decide_eq_false (fun e=>he (congrArg (fun z=>Qf z i.i) e)))) (fun F ⟨hA,hB⟩=>trivial)
   ·
    have he:=bne_eq_false_iff_eq.1 hc
    refine QN<|Qm<|QD<|QB<|QA (QC rfl)<|QA (Qw rfl rfl (by omega))<|QA (QE rfl)<|QF ?_
    exact Qo (⟨i.i+1,hlt,i.next hlt (by omega) he⟩) (by show a.length - (i.i+1)<a.length - i.i;omega) ⟨rfl,rfl,rfl,trivial⟩ (List.Sublist.refl _) (fun F h=>h)
  ·
   have hge:i.i=a.length:=by have:=of_decide_eq_false hc;omega
   refine Q6 ?_
   repeat (first | refine Qc ?_ | refine QX (by rfl) ?_)
   refine Qd<|QD<|QG<|QB<|QA (QE rfl)<|QF<|QD<|QS ?_
   exact QQ (()) rfl (.tmp rfl .nil) (congrArg Value.bool (decide_eq_true (by have h:=i.h;rw [hge,List.take_length,List.take_of_length_le (by omega)] at h;exact h))) (fun F ⟨hA,hB⟩=>trivial)
end
section
open Go.RowKit Ig
end
section
open Go.RowKit Ig
end
section
open Go.RowKit Ig
section
variable {ps:List GX} {v:Int} {i:Nat}
end
end
section
open Go.RowKit Ig
structure yf (a b:List GX) where
 i:Nat
 le:i≤a.length
 h:(XG a).take i=(XG b).take i
theorem Gr (a:List GX):(XG a).length=a.length:=by simp [XG]
theorem yf.next {a b:List GX} (s:yf a b) (h1:s.i<a.length) (h2:s.i<b.length) (e1:(el a s.i).f=(el b s.i).f) (e2:(el a s.i).k=(el b s.i).k):(XG a).take (s.i+1)=(XG b).take (s.i+1):=by
 rw [ZL (by rw [Gr];exact h1),ZL (by rw [Gr];exact h2),s.h,H7 h1,H7 h2,e1,e2]
theorem Rq {a b:List GX} {i:Nat} (h1:i<a.length) (h2:i<b.length) (h:XG a=XG b):(el a i).f=(el b i).f∧(el a i).k=(el b i).k:=by
 have e1:=H7 h1
 have e2:=H7 h2
 rw [h,e2] at e1
 have:=Prod.mk.inj e1
 exact⟨this.1.symm,this.2.symm⟩
theorem TU {w:World} {F:Gs} {q q2:Option Addr} {n cap n2 cap2:Nat} {a b:List GX} (hF:Fits F w) (hR:JF F q n 2 (a.flatMap Wm)) (hP:Yo F a) (hR2:JF F q2 n2 2 (b.flatMap Wm)) (hP2:Yo F b) (hln:a.length=n) (hln2:b.length=n2) (hf:∀ t∈a,t.k.length≤1000000) (hl:a.length≤1000000):QW Tryz.prog 43 [.slice q n cap,.slice q2 n2 cap2] w F (.bool (decide (XG a=XG b))):=by
 refine QT.intro (G:=fun F=>JF F q n 2 (a.flatMap Wm)∧Yo F a∧JF F q2 n2 2 (b.flatMap Wm)∧Yo F b) Tryz.func43 rfl (by rfl) rfl rfl hF (fun F' hF'=>⟨hR.le hF',hP.le hF',hR2.le hF',hP2.le hF'⟩)<|QG<|QB<|QA (QE rfl)<|QF<|QD<|QG<|QG<|QB<|QA (QC rfl)<|QA (Ql rfl Zp)<|QA (QC rfl)<|QA (Ql rfl Zp)<|QA (QU rfl rfl rfl)<|QF<|QD ?_
 refine QO rfl (fun hc=>?_) (fun hc=>?_)
 ·
  have hne:=bne_iff_ne.1 hc
  refine QG<|QB<|QA (QE rfl)<|QF<|QD<|QS ?_
  exact QQ (()) rfl (.tmp rfl .nil) (congrArg Value.bool (decide_eq_false (fun e=>hne (by rw [← hln,← hln2,← Gr a,← Gr b,e])))) (fun F ⟨hR,hP,hR2,hP2⟩=>trivial)
 ·
  have hne:=bne_eq_false_iff_eq.1 hc
  refine QN<|QD<|QG<|QG<|QB<|QA (QE rfl)<|QF<|QD<|Qa<|YU (ι:=yf a b) [(0,_),(1,_)] (fun i=>[(5,.int .i64 ((i.i:Nat):Int))]) (fun i=>a.length - i.i) (⟨0,Nat.zero_le _,rfl⟩) ⟨rfl,rfl,trivial⟩ ⟨rfl,trivial⟩ (fun i=>?_)
  simp only [List.cons_append,List.nil_append]
  have hi:=i.le
  refine QG<|QG<|QB<|QA (QC rfl)<|QA (QC rfl)<|QA (Ql rfl Zp)<|QA (QU rfl rfl rfl)<|QF<|QD ?_
  refine QO rfl (fun hc=>?_) (fun hc=>?_)
  ·
   have hlt:i.i<a.length:=by have:=of_decide_eq_true hc;omega
   have hlt2:i.i<b.length:=by omega
   have hta:=Je hlt
   have htb:=Je hlt2
   refine QN<|QD<|QG<|Qa<|QG<|JQ (List.Sublist.refl _) mixed (by kernel_rfl)<|QM (QC rfl)<|QM (QC rfl)<|QM (Jc (n:=n) (i.i) (fun F ⟨hR,hP,hR2,hP2⟩=>hR) rfl rfl Zp X3 (by omega))<|QM (QI rfl By X2)<|QM (Ji (n:=n) ((i.i)*2+0) (fun F ⟨hR,hP,hR2,hP2⟩=>hR) (by omega) rfl X2 (XU (f:=Wm) (l:=a) Vv (by omega) rfl))<|QM (QC rfl)<|QM (QC rfl)<|QM (Jc (n:=n2) (i.i) (fun F ⟨hR,hP,hR2,hP2⟩=>hR2) rfl rfl Zp X3 (by omega))<|QM (QI rfl By X2)<|QM (Ji (n:=n2) ((i.i)*2+0) (fun F ⟨hR,hP,hR2,hP2⟩=>hR2) (by omega) rfl X2 (XU (f:=Wm) (l:=b) Vv (by omega) rfl))<|QM (O5 rfl rfl)<|QM (QC rfl) ?_
   refine DM (t:=28) rfl (fun hb28=>?_) (fun hb28=>?_)
   ·
    have h28:¬ (el a i.i).f=(el b i.i).f:=bne_iff_ne.1 hb28
    refine Jt rfl rfl rfl<|Jt rfl rfl rfl<|Jt rfl rfl rfl<|Jt rfl rfl rfl<|Jt rfl rfl rfl<|Jt rfl rfl rfl<|Jt rfl rfl rfl<|Jt rfl rfl rfl<|Jt rfl rfl rfl<|Jt rfl rfl rfl<|Jt rfl rfl rfl<|Jt rfl rfl rfl<|QM (Qi rfl rfl rfl)<|Q3<|QD<|K8 rfl<|QG<|QB<|QA (QE rfl)<|QF<|QD<|QS ?_
    repeat (first | refine JN ?_ | refine JE ?_)
    exact QQ (()) rfl (.tmp rfl .nil) (congrArg Value.bool (decide_eq_false (fun e=>by first | exact h28 (Rq hlt hlt2 e).1 | (have g:=(Rq hlt hlt2 e).2;rw [g] at hc;simp at hc)))) (fun F ⟨hR,hP,hR2,hP2⟩=>trivial)
   ·
    have h28:(el a i.i).f=(el b i.i).f:=bne_eq_false_iff_eq.1 hb28
    refine XE rfl rfl<|QM (QC rfl)<|XE rfl rfl<|QM (QC rfl)<|XE rfl rfl<|QM (Jc (n:=n) (i.i) (fun F ⟨hR,hP,hR2,hP2⟩=>hR) rfl rfl Zp X3 (by omega))<|XE rfl rfl<|QM (QI rfl Wf Qs)<|XE rfl rfl<|QM (Ji (n:=n) ((i.i)*2+1) (fun F ⟨hR,hP,hR2,hP2⟩=>hR) (by omega) rfl Qs (XU (f:=Wm) (l:=a) Vv (by omega) rfl))<|XE rfl rfl<|QM (QC rfl)<|XE rfl rfl<|QM (QC rfl)<|XE rfl rfl<|QM (Jc (n:=n2) (i.i) (fun F ⟨hR,hP,hR2,hP2⟩=>hR2) rfl rfl Zp X3 (by omega))<|XE rfl rfl<|QM (QI rfl Wf Qs)<|XE rfl rfl<|QM (Ji (n:=n2) ((i.i)*2+1) (fun F ⟨hR,hP,hR2,hP2⟩=>hR2) (by omega) rfl Qs (XU (f:=Wm) (l:=b) Vv (by omega) rfl))<|XE rfl rfl<|Qb rfl (fun w F hF ⟨hR,hP,hR2,hP2⟩=>TV hF (a:=(el a i.i).k) (b:=(el b i.i).k) (hP _ hta) (hP2 _ htb) (hf _ hta)) (fun _=>XE rfl rfl<|QM (ZO rfl)<|QM (Qh rfl rfl rfl) ?_)
    refine Q3<|QD ?_
    refine QO rfl (fun hc=>?_) (fun hc=>?_)
    ·
     refine QG<|QB<|QA (QE rfl)<|QF<|QD<|QS ?_
     repeat (first | refine JN ?_ | refine JE ?_)
     exact QQ (()) rfl (.tmp rfl .nil) (congrArg Value.bool (decide_eq_false (fun e=>by first | exact h28 (Rq hlt hlt2 e).1 | (have g:=(Rq hlt hlt2 e).2;rw [g] at hc;simp at hc)))) (fun F ⟨⟨hR,hP,hR2,hP2⟩,_⟩=>trivial)
    ·
     refine QN<|Qm<|QD<|QB<|QA (QC rfl)<|QA (Qw rfl rfl (by omega))<|QA (QE rfl)<|QF ?_
     exact Qo (⟨i.i+1,hlt,i.next hlt hlt2 h28 (by simpa using hc)⟩) (by show a.length - (i.i+1)<a.length - i.i;omega) ⟨rfl,rfl,rfl,trivial⟩ (List.Sublist.refl _) (fun F h=>h.1)
  ·
   have hge:i.i=a.length:=by have:=of_decide_eq_false hc;omega
   refine Q6 ?_
   repeat (first | refine Qc ?_ | refine QX (by rfl) ?_)
   refine Qd<|QD<|QG<|QB<|QA (QE rfl)<|QF<|QD<|QS ?_
   exact QQ (()) rfl (.tmp rfl .nil) (congrArg Value.bool (decide_eq_true (by have h:=i.h;rw [hge,List.take_of_length_le (by rw [Gr];omega),List.take_of_length_le (by rw [Gr];omega)] at h;exact h))) (fun F ⟨hR,hP,hR2,hP2⟩=>trivial)
end
section
open Go.RowKit Ig
structure Ss {α:Type} (l:List α) (p:α→Bool) where
 i:Nat
 le:i≤l.length
 z:∀ x∈l.take i,p x=false
section
variable {α:Type} [Inhabited α] {l:List α} {p:α→Bool}
def Ss.start (l:List α) (p:α→Bool):Ss l p:=⟨0,Nat.zero_le _,by simp⟩
def Ss.next (s:Ss l p) (h:s.i<l.length) (e:p (el l s.i)=false):Ss l p:=⟨s.i+1,h,fun x hx=>by
 rw [ZL h] at hx
 rcases List.mem_append.1 hx with hx | hx
 ·exact s.z x hx
 ·rw [List.mem_singleton.1 hx];exact e⟩
theorem Ss.hit (s:Ss l p) (h:s.i<l.length) (e:p (el l s.i)=true):l.any p=true:=List.any_eq_true.2 ⟨_,Je h,e⟩
theorem Ss.stop (s:Ss l p) (h:l.length≤s.i):¬ l.any p=true:=by
 rw [List.any_eq_true]
 rintro ⟨x,hx,e⟩
 have:=s.z x (by rw [List.take_of_length_le h];exact hx)
 rw [this] at e;cases e
end
end
section
open Go.RowKit Ig
end
section
open Go.RowKit Ig
end
section
open Go.RowKit Ig
end
section
open Go.RowKit Ig
def De (have_:List UInt8) (e bad:Int) (want:List UInt8):Bool :=
 if bad=0 then(if GI want=0 then(e==0)&&(have_==want) else(have_==[])&&(e==GI want)) else(have_==[])&&(e==bad)
theorem RD {w:World} {F:Gs} {a b:List UInt8} {e d:Int} (hF:Fits F w) (hl:b.length≤1000000000):QW Tryz.prog 25 [tx a,.int .i64 e,.int .i64 d,tx b] w F (.bool (De a e d b)):=by
 refine QT.intro (G:=fun F=>True) Tryz.func25 rfl (by rfl) rfl rfl hF (fun F' hF'=>trivial)<|QG<|QB<|QA (QE rfl)<|QF<|QD<|QG<|QG<|QB<|QA (QC rfl)<|QA (QU rfl rfl rfl)<|QF<|QD ?_
 refine QO rfl (fun hc=>?_) (fun hc=>?_)
 ·
  have h10:=eq_of_beq hc
  refine QB<|QA (QC rfl)<|QH rfl (fun w F hF _=>Ot hF (hl)) (fun _=>QA (QE rfl)<|QF<|QD<|QG<|QG<|QB<|QA (QC rfl)<|QA (QU rfl rfl rfl)<|QF<|QD ?_)
  refine QO rfl (fun hc=>?_) (fun hc=>?_)
  ·
   have h14:=bne_iff_ne.1 hc
   refine QG<|QB<|QA (QC rfl)<|QA (Zy rfl rfl)<|QA (QC rfl) ?_
   refine Qk (t:=17) rfl (fun hb17=>?_) (fun hb17=>?_)
   ·
    refine QJ rfl rfl<|QA (QC rfl)<|QJ rfl rfl<|QA (QC rfl)<|QJ rfl rfl<|QA (QU rfl rfl rfl)<|QA (Qi rfl rfl rfl)<|QA (QE rfl)<|QF<|QD<|QS ?_
    exact QQ (()) rfl (.tmp rfl .nil) (congrArg Value.bool (by unfold De;simp_all)) (fun F ⟨_,_⟩=>trivial)
   ·
    refine QR rfl rfl rfl<|QR rfl rfl rfl<|QR rfl rfl rfl<|QA (Qh rfl rfl rfl)<|QA (QE rfl)<|QF<|QD<|QS ?_
    exact QQ (()) rfl (.tmp rfl .nil) (congrArg Value.bool (by unfold De;simp_all)) (fun F ⟨_,_⟩=>trivial)
  ·
   have h14:=bne_eq_false_iff_eq.1 hc
   refine QN<|QD<|QG<|QB<|QA (QC rfl)<|QA (QU rfl rfl rfl)<|QA (QC rfl) ?_
   refine Qk (t:=24) rfl (fun hb24=>?_) (fun hb24=>?_)
   ·
    refine QJ rfl rfl<|QA (QC rfl)<|QJ rfl rfl<|QA (QC rfl)<|QJ rfl rfl<|QA (Zy rfl rfl)<|QA (Qi rfl rfl rfl)<|QA (QE rfl)<|QF<|QD<|QS ?_
    exact QQ (()) rfl (.tmp rfl .nil) (congrArg Value.bool (by unfold De;simp_all)) (fun F ⟨_,_⟩=>trivial)
   ·
    refine QR rfl rfl rfl<|QR rfl rfl rfl<|QR rfl rfl rfl<|QA (Qh rfl rfl rfl)<|QA (QE rfl)<|QF<|QD<|QS ?_
    exact QQ (()) rfl (.tmp rfl .nil) (congrArg Value.bool (by unfold De;simp_all)) (fun F ⟨_,_⟩=>trivial)
 ·
  have h10:¬ d=0:=fun e=>by rw [e] at hc;cases hc
  refine QN<|QD<|QG<|QG<|QB<|QA (QC rfl)<|QA (QU rfl rfl rfl)<|QF<|QD ?_
  refine QO rfl (fun hc=>?_) (fun hc=>?_)
  ·
   have h14:=bne_iff_ne.1 hc
   refine QG<|QB<|QA (QC rfl)<|QA (Zy rfl rfl)<|QA (QC rfl) ?_
   refine Qk (t:=17) rfl (fun hb17=>?_) (fun hb17=>?_)
   ·
    refine QJ rfl rfl<|QA (QC rfl)<|QJ rfl rfl<|QA (QC rfl)<|QJ rfl rfl<|QA (QU rfl rfl rfl)<|QA (Qi rfl rfl rfl)<|QA (QE rfl)<|QF<|QD<|QS ?_
    exact QQ (()) rfl (.tmp rfl .nil) (congrArg Value.bool (by unfold De;simp_all)) (fun F _=>trivial)
   ·
    refine QR rfl rfl rfl<|QR rfl rfl rfl<|QR rfl rfl rfl<|QA (Qh rfl rfl rfl)<|QA (QE rfl)<|QF<|QD<|QS ?_
    exact QQ (()) rfl (.tmp rfl .nil) (congrArg Value.bool (by unfold De;simp_all)) (fun F _=>trivial)
  ·
   have h14:=bne_eq_false_iff_eq.1 hc
   refine QN<|QD<|QG<|QB<|QA (QC rfl)<|QA (QU rfl rfl rfl)<|QA (QC rfl) ?_
   refine Qk (t:=24) rfl (fun hb24=>?_) (fun hb24=>?_)
   ·
    refine QJ rfl rfl<|QA (QC rfl)<|QJ rfl rfl<|QA (QC rfl)<|QJ rfl rfl<|QA (Zy rfl rfl)<|QA (Qi rfl rfl rfl)<|QA (QE rfl)<|QF<|QD<|QS ?_
    exact QQ (()) rfl (.tmp rfl .nil) (congrArg Value.bool (by unfold De;simp_all)) (fun F _=>trivial)
   ·
    refine QR rfl rfl rfl<|QR rfl rfl rfl<|QR rfl rfl rfl<|QA (Qh rfl rfl rfl)<|QA (QE rfl)<|QF<|QD<|QS ?_
    exact QQ (()) rfl (.tmp rfl .nil) (congrArg Value.bool (by unfold De;simp_all)) (fun F _=>trivial)
end
section
open Go.RowKit Ig
end
section
open Go.RowKit Ig
end
section
open Go.RowKit Ig
end
section
open Go.RowKit Ig
section
variable {P:Program} {Q:Exit→Act→World→Prop} {N:Nat} {m:Sl} {E0:Env} {ops:Array Oper} {l:List Oper} {w0:World} {F0:Gs} {bs:List (Nat×Obj)} {G:Gs→Prop} {ty:TypeId}
theorem xO {d:Nat} {pos:String} {aft:Array Edge} {t e:TypeId} {sz bytes n:Nat} {z:List Value} {g:Bool} {X Y:Operand} {kl:IntKind} (hx:ev m X=some (.int kl (n:Int))) (hy:ev m Y=some (.int kl (n:Int))) (ht:H9 P t=some e) (hs:YJ P e=some (g,sz)) (hz:XM P e=some z) (hzl:z.length=sz) (hby:YY P e=some bytes) (h63:(n:Int)≤9223372036854775807) (h48:n*bytes≤281474976710656)
  (k:∀ b,JD P ops Q E0 l N ((d,.slice (some ⟨b,0,none⟩) n n)::m) ⟨w0,F0,(b,.cells (Za z n).toArray e (0,0))::bs,G⟩) (hu:Wb e=true:=by rfl) (hd:J4 N (some d)=true:=by rfl) :
  JD P ops Q E0 (⟨some d,.makeSlice t X Y,ty,pos,aft,none⟩::l) N m ⟨w0,F0,bs,G⟩:=fun hE a w ha hw=>by
 have hS:=hw.alloc (.cells (Za z n).toArray e (0,0)) (Xj hu)
 have sub:∀ w' b,St ⟨w0,F0,(b,.cells (Za z n).toArray e (0,0))::bs,G⟩ w'→St E0 w':=fun w' b h=>hE w' (h.imp (List.sublist_cons_self _ _) fun _ h=>h)
 refine .inr ⟨rfl,?_⟩
 rw [if_pos (by simp [Region.wanted])]
 exact upon_value (by
  simp only [execOp,ha.ev hx,ha.ev hy,Sem.run_bind,Pq ht hs hz hzl hby h63 h48,Result.andThen_ok,Sem.run_pure]) ⟨sub _ _ hS,k _ (fun w' h=>sub w' _ h) _ _ (ha.put hd _) hS⟩
end
def VW (a:Rat) (k:Nat):List Tm:=if a=0 then [] else [(a,List.replicate k 0)]
theorem Tl {w:World} {F:Gs} {x:Fr} {a:Rat} {k:Nat} (hF:Fits F w) (hA:JV F x a) (hk:k≤1000):QT Tryz.prog 222 [x.v,.int .i64 (k:Nat)] w F (fun(c:W1)=>c.1.v) (fun c F=>Jm F c.1 c.2 (VW a k)):=by
 dsimp only [Fr.v]
 refine QT.intro (G:=fun F=>JV F x a) Tryz.func222 rfl (by rfl) rfl rfl hF (fun F' hF'=>hA.le hF')<|QG<|QB<|Q5 rfl (vs:=[_,_,_,_]) rfl (fun b2=>QA (QE rfl)<|QF<|QD<|QG<|QG<|QB<|QA (QL (vs:=[_,_,_,_]) rfl Qg .here (.here (.here (.here (.here .nil)))) rfl)<|QH rfl (fun w F hF ⟨hxn,hxd⟩=>Gl hF ⟨by assumption,by assumption⟩) (fun _=>QA (QU rfl rfl rfl)<|QF<|QD ?_))
 refine QO rfl (fun hc=>?_) (fun hc=>?_)
 ·
  have ha0:a=0:=BR.1 (by simpa using hc)
  refine QG<|QB<|QA (QE rfl)<|QF<|QD<|QS ?_
  exact QQ ((⟨none,0,0⟩,[])) rfl (.tmp rfl .nil) (rfl) (fun F ⟨⟨hxn,hxd⟩,_⟩=>⟨JF.nil F none 5,(fun _ h=>by cases h),by unfold VW;rw [if_pos ha0];rfl,Nat.le_refl _,rfl⟩)
 ·
  have ha0:a≠0:=fun e=>by rw [e] at hc;cases hc
  refine QN<|QD<|QG<|JQ (List.Sublist.refl _) mixed (by kernel_rfl)<|QM (QL (vs:=[_,_,_,_]) rfl Qg .here (.here (.here (.here (.here .nil)))) rfl)<|QM (QC rfl)<|xO (n:=k) (bytes:=8) rfl rfl Qe Qu Vi rfl DF (by omega) (by omega) (fun b10=>?_)
  rw [show Za [Value.int .i64 0] k=(List.replicate k (0:Int)).map Qz by rw [VG];simp [Qz]]
  refine OC (b:=b10) .here (List.Sublist.refl _) (fun _ h=>h)<|QM (Q9 rfl ND Ze (.cons (vs:=[_,_,_,_]) rfl rfl rfl (.here (.here (.here (.here .nil)))) (.cons (vs:=[_]) rfl rfl rfl (.skip (.skip (.skip (.skip (.here .nil))))) .nil))) ?_
  refine Ju rfl (Q8 J1) Jf Ze rfl rfl (fun b12=>?_) (fun w h=>h.imp (.cons_cons _ .slnil) (fun F h=>h.1))
  refine QM (QE rfl)<|Q3<|QD<|QS ?_
  exact QQ ((⟨some ⟨b12,0,none⟩,1,1⟩,[⟨x,⟨some ⟨b10,0,none⟩,k,k⟩,(a,(List.replicate k (0:Int)))⟩])) rfl (.tmp rfl .nil) (rfl) (fun F ⟨⟨⟨⟨hxn,hxd⟩,_⟩,hz⟩,hs12⟩=>⟨JF.of hs12 rfl,fun t ht=>by
  rw [List.mem_singleton.1 ht]
  exact⟨⟨hxn,hxd⟩,JF.of hz (by simp),by simp,Nat.le_refl _⟩,by unfold VW;rw [if_neg ha0];rfl,Nat.le_refl _,rfl⟩)
end
section
open Go.RowKit Ig
def WZ (p:List Tm) (k:Nat):Nat→List Tm
 |0=>VW 1 k
 |i+1=>XH (Jh (WZ p k i) p)
structure gE (n:Nat) where
 i:Nat
 c:W1
 le:i≤n
structure DJ (p q:List Tm) (N:Nat):Prop where
 wp:∀ t∈p,t.2.length=N
 wq:∀ t∈q,t.2.length=N
 lp:p.length≤10000
 lq:q.length≤10000
 pp:∀ t∈p,PW t.2
 pq:∀ t∈q,PW t.2
 pm:∀ s∈p,∀ t∈q,PW (Xq s.2 t.2)
 zp:Zj p≤20000000
 zq:Zj q≤20000000
 zm:Zj (Jh p q)≤40000000
theorem Tj {w:World} {F:Gs} {p q:W1} {N:Nat} (hF:Fits F w) (hGl:JC F) (hP:Jm F p.1 p.2 (JL p.2)) (hQ:Jm F q.1 q.2 (JL q.2)) (hN:N≤1000) (h:DJ (JL p.2) (JL q.2) N) :
  QT Tryz.prog 223 [p.1.v,q.1.v] w F (fun(c:W1)=>c.1.v) (fun c F=>Jm F c.1 c.2 (XH (Jh (JL p.2) (JL q.2)))) :=
 zf hF hGl hP hQ ⟨fun t ht=>h.wp _ (List.mem_map_of_mem ht),fun t ht=>h.wq _ (List.mem_map_of_mem ht)⟩ hN ⟨by have:=h.lp;rwa [KI] at this,by have:=h.lq;rwa [KI] at this⟩
  ⟨fun t ht=>h.pp _ (List.mem_map_of_mem ht),fun t ht=>h.pq _ (List.mem_map_of_mem ht),fun s hs t ht=>h.pm _ (List.mem_map_of_mem hs) _ (List.mem_map_of_mem ht)⟩ ⟨h.zp,h.zq⟩ h.zm
theorem ze {w:World} {F:Gs} {p:W1} {n k:Nat} (hF:Fits F w) (hGl:JC F) (hP:Jm F p.1 p.2 (JL p.2)) (hk:k≤1000) (hn:n≤1000000) (hm:∀ i,i<n→DJ (WZ (JL p.2) k i) (JL p.2) k) :
  QT Tryz.prog 224 [p.1.v,.int .i64 (n:Nat),.int .i64 (k:Nat)] w F (fun(c:W1)=>c.1.v) (fun c F=>Jm F c.1 c.2 (WZ (JL p.2) k n)):=by
 dsimp only [Sr.v]
 refine QT.intro (G:=fun F=>JC F∧Jm F p.1 p.2 (JL p.2)) Tryz.func224 rfl (by rfl) rfl rfl hF (fun F' hF'=>⟨hGl.le hF',hP.le hF'⟩)<|QG<|QB<|QA (QE rfl)<|QF<|QD<|QG<|QB<|QH rfl (fun w F hF ⟨hGl,hP⟩=>vJ hF (by omega) (by omega)) (fun x8=>QA (QC rfl)<|QH rfl (fun w F hF ⟨⟨hGl,hP⟩,⟨h8,h8_⟩⟩=>Tl (a:=1) hF ⟨h8,h8_⟩ hk) (fun c10=>QA (QE rfl)<|QF<|QD<|QG<|QG<|QB<|QA (QC rfl)<|QA (QC rfl)<|QF<|QD<|Qa<|Jz (ι:=gE n) [(0,_),(11,_)] (fun i=>[(7,i.c.1.v),(12,.int .i64 ((i.i:Nat):Int))]) (fun i=>[]) (fun i F=>Jm F i.c.1 i.c.2 (WZ (JL p.2) k i.i)) (fun i=>n - i.i) (⟨0,c10,Nat.zero_le _⟩) ⟨rfl,rfl,trivial⟩ ⟨rfl,rfl,trivial⟩ (List.Sublist.refl _) (fun _ h=>h.2) (fun i=>?_)))
 simp only [List.cons_append,List.nil_append]
 have hi:=i.le
 refine QG<|QB<|QA (QU rfl rfl rfl)<|QF<|QD<|QG ?_
 refine QO rfl (fun hc=>?_) (fun hc=>?_)
 ·
  have hlt:i.i<n:=by have:=of_decide_eq_true hc;omega
  refine QN<|QD<|QG<|Qa<|QB<|QA (QC rfl)<|QA (QC rfl)<|JK _ (fun w F hF ⟨⟨⟨⟨hGl,hP⟩,⟨h8,h8_⟩⟩,h10⟩,hC⟩=>hC.2.2.1) (fun hce=>QH rfl (fun w F hF ⟨⟨⟨⟨hGl,hP⟩,⟨h8,h8_⟩⟩,h10⟩,hC⟩=>Tj (N:=k) hF hGl (p:=i.c) (q:=p) (by rw [hce];exact hC) hP hk (by rw [hce];exact hm _ hlt)) (fun c16=>?_))
  rw [hce]
  refine QA (QE rfl)<|QF<|Qm<|QD<|QB<|QA (Qw rfl rfl (by omega))<|QA (QC rfl)<|QF ?_
  exact Qo (⟨i.i+1,c16,hlt⟩) (by show n - (i.i+1)<n - i.i;omega) ⟨rfl,rfl,rfl,rfl,trivial⟩ (List.Sublist.refl _) (fun F h=>⟨h.1.1,h.2⟩)
 ·
  have hge:i.i=n:=by have:=of_decide_eq_false hc;omega
  refine Q6 ?_
  repeat (first | refine Qc ?_ | refine QX (by rfl) ?_)
  refine Qd<|QD<|QG<|QB<|QA (QC rfl)<|QA (QE rfl)<|QF<|QD<|QS ?_
  exact QQ (i.c) rfl (.tmp rfl .nil) (rfl) (fun F ⟨⟨⟨⟨hGl,hP⟩,⟨h8,h8_⟩⟩,h10⟩,hC⟩=>by rw [hge] at hC;exact hC)
end
section
open Go.RowKit Ig
def Dt (c:Rat) (ws:List (List Tm)) (ks:List Int) (k:Nat):Nat→List Tm
 |0=>VW c k
 |i+1=>XH (Jh (Dt c ws ks k i) (WZ (el ws i) k (Qf ks i).toNat))
def Wj (ws:List (List Tm)) (k:Nat) (l:List Tm):List Tm:=l.foldl (fun a t=>XH (a++Dt t.1 ws t.2 k t.2.length)) []
theorem Lt {ts:List XY} {ws:List (List Tm)} {k i:Nat} (h:i<ts.length):Wj ws k (JL (ts.take (i+1)))=XH (Wj ws k (JL (ts.take i))++Dt (el ts i).t.1 ws (el ts i).t.2 k (el ts i).t.2.length):=by
 rw [Xs h];unfold Wj;rw [List.foldl_append];rfl
structure qU (p q:List Tm):Prop where
 pp:∀ t∈p,PW t.2
 pq:∀ t∈q,PW t.2
 lp:p.length≤400000000
 lq:q.length≤400000000
 zs:Zj (p++q)≤40000000
theorem CU {w:World} {F:Gs} {p q:W1} (hF:Fits F w) (hGl:JC F) (hP:Jm F p.1 p.2 (JL p.2)) (hQ:Jm F q.1 q.2 (JL q.2)) (h:qU (JL p.2) (JL q.2)) :
  QT Tryz.prog 139 [p.1.v,q.1.v] w F (fun(c:W1)=>c.1.v) (fun c F=>Jm F c.1 c.2 (XH (JL p.2++JL q.2))) :=
 zk hF hGl hP hQ ⟨fun t ht=>h.pp _ (List.mem_map_of_mem ht),fun t ht=>h.pq _ (List.mem_map_of_mem ht)⟩ ⟨by have:=h.lp;rwa [KI] at this,by have:=h.lq;rwa [KI] at this⟩ h.zs
structure gR (n:Nat) where
 i:Nat
 c:W1
 le:i≤n
structure gS (n:Nat) where
 j:Nat
 d:W1
 le:j≤n
def Pe (ws:List W1):List (List Tm):=ws.map fun e=>JL e.2
theorem AJ {ws:List W1} {j:Nat} (h:j<ws.length):el (Pe ws) j=JL (el ws j).2:=by rw [Zi (by simpa [Pe] using h),Zi h];simp [Pe]
theorem Al {w:World} {F:Gs} {q q2:Option Addr} {n cap n2 cap2 k:Nat} {ts:List XY} {ws:List W1} (hF:Fits F w) (hGl:JC F) (hP:Jm F ⟨q,n,cap⟩ ts (JL ts)) (hW:JF F q2 n2 1 (ws.map fun e=>e.1.v)) (hWs:U6 F ws) (hw:ws.length=n2) (hk:k≤1000) (hl:ts.length≤1000000)
  (hp:∀ t∈ts,t.t.2.length≤n2∧PW t.t.2) (h1:∀ t∈ts,∀ j,j<t.t.2.length→DJ (Dt t.t.1 (Pe ws) t.t.2 k j) (WZ (el (Pe ws) j) k (Qf t.t.2 j).toNat) k∧∀ i,i<(Qf t.t.2 j).toNat→DJ (WZ (el (Pe ws) j) k i) (el (Pe ws) j) k)
  (h2:∀ i,i<ts.length→qU (Wj (Pe ws) k (JL (ts.take i))) (Dt (el ts i).t.1 (Pe ws) (el ts i).t.2 k (el ts i).t.2.length)) :
  QT Tryz.prog 144 [.slice q n cap,.slice q2 n2 cap2,.int .i64 (k:Nat)] w F (fun(c:W1)=>c.1.v) (fun c F=>Jm F c.1 c.2 (Wj (Pe ws) k (JL ts))):=by
 have hln:ts.length=n:=hP.2.2.2.2
 refine QT.intro (G:=fun F=>JC F∧Jm F ⟨q,n,cap⟩ ts (JL ts)∧JF F q2 n2 1 (ws.map fun e=>e.1.v)∧U6 F ws) Tryz.func144 rfl (by rfl) rfl rfl hF (fun F' hF'=>⟨hGl.le hF',hP.le hF',hW.le hF',hWs.le hF'⟩)<|QG<|QB<|QA (QE rfl)<|QF<|QD<|QG<|QB<|QA (QE rfl)<|QF<|QD<|QG<|QG<|QB<|QA (QC rfl)<|QA (Ql rfl J1)<|QA (QC rfl)<|QF<|QD<|Qa<|Jz (ι:=gR ts.length) [(1,_),(2,_),(13,_),(14,_)] (fun i=>[(7,i.c.1.v),(15,.int .i64 ((i.i:Nat):Int))]) (fun i=>[]) (fun i F=>Jm F i.c.1 i.c.2 (Wj (Pe ws) k (JL (ts.take i.i)))) (fun i=>ts.length - i.i) (⟨0,(⟨none,0,0⟩,[]),Nat.zero_le _⟩) ⟨rfl,rfl,rfl,rfl,trivial⟩ ⟨rfl,rfl,trivial⟩ (List.Sublist.refl _) (fun F _=>⟨JF.nil F none 5,(fun _ h=>by cases h),rfl,Nat.le_refl _,rfl⟩) (fun i=>?_)
 simp only [List.cons_append,List.nil_append]
 have hi:=i.le
 refine QG<|QB<|QA (QU rfl rfl rfl)<|QF<|QD<|QG ?_
 refine QO rfl (fun hc=>?_) (fun hc=>?_)
 ·
  have hlt:i.i<ts.length:=by have:=of_decide_eq_true hc;omega
  have htm:=Je hlt
  have hp1:=hp _ htm
  have hpl:=hp1.2.2
  have hrl:=(hP.2.1 _ htm).2.2.1
  refine QN<|QD<|QG<|Qa<|QG<|QB<|QA (Jc (n:=n) (i.i) (fun F ⟨⟨hGl,hP,hW,hWs⟩,hC⟩=>(hP).1) rfl rfl J1 Jf (by omega))<|QA (ZB (n:=n) (vs:=[.int .i64 (el ts (i.i)).x.n.s,.slice (el ts (i.i)).x.n.q (el ts (i.i)).x.n.n (el ts (i.i)).x.n.cap,.int .i64 (el ts (i.i)).x.d.s,.slice (el ts (i.i)).x.d.q (el ts (i.i)).x.d.n (el ts (i.i)).x.d.cap,.slice (el ts (i.i)).r.q (el ts (i.i)).r.n (el ts (i.i)).r.cap]) ((i.i)*5) (fun F ⟨⟨hGl,hP,hW,hWs⟩,hC⟩=>(hP).1) (by omega) rfl Jf rfl (fun j v hv=>XU (f:=Yl) (l:=ts) YS (by omega) hv))<|QZ Ze (fun b9=>QP (vs:=[_,_,_,_,_]) rfl rfl rfl Jf rfl .here (.here (.here (.here (.here (.here .nil))))) ⟨rfl,rfl,rfl,rfl,rfl,trivial⟩<|QF<|QD<|QG<|QB<|QA (QI rfl YC Qg)<|QA (QL (vs:=[_,_,_,_]) rfl Qg .here (.here (.here (.here (.here .nil)))) rfl)<|QA (QC rfl)<|QH rfl (fun w F hF ⟨⟨hGl,hP,hW,hWs⟩,hC⟩=>Tl (a:=(el ts i.i).t.1) (x:=(el ts i.i).x) hF (hP.2.1 _ htm).1 hk) (fun c22=>QA (QE rfl)<|QF<|QD<|QG<|QG<|QB<|QA (QI rfl ZE Qs) ?_))
  refine QA (Qn rfl Qs .here (.skip (.skip (.skip (.skip (.here .nil))))))<|QA (Ql rfl Qe)<|QA (QC rfl)<|QF<|QD<|Qa<|Jz (ι:=gS (el ts i.i).t.2.length) [(1,_),(2,_),(7,_),(13,_),(14,_),(15,_),(24,_),(25,_)] (fun i2=>[(10,i2.d.1.v),(26,.int .i64 ((i2.j:Nat):Int))]) (fun i2=>[]) (fun i2 F=>Jm F i2.d.1 i2.d.2 (Dt (el ts i.i).t.1 (Pe ws) (el ts i.i).t.2 k i2.j)) (fun i2=>(el ts i.i).t.2.length - i2.j) (⟨0,c22,Nat.zero_le _⟩) ⟨rfl,rfl,rfl,rfl,rfl,rfl,rfl,rfl,trivial⟩ ⟨rfl,rfl,trivial⟩ (List.nil_sublist _) (fun _ h=>h.2) (fun i2=>?_)
  simp only [List.cons_append,List.nil_append]
  have hj:=i2.le
  refine QG<|QB<|QA (QU rfl rfl rfl)<|QF<|QD<|QG ?_
  refine QO rfl (fun hc=>?_) (fun hc=>?_)
  ·
   have hlt2:i2.j<(el ts i.i).t.2.length:=by have:=of_decide_eq_true hc;omega
   have hlw:i2.j<ws.length:=by omega
   have hem:=Je hlw
   have hk1:=hp1.2.el hlt2
   refine QN<|QD<|QG<|Qa<|QG<|QB<|QA (QC rfl)<|QA (Jc (n:=(el ts i.i).r.n) (i2.j) (fun F ⟨⟨⟨⟨hGl,hP,hW,hWs⟩,hC⟩,h22⟩,hD⟩=>((hP.2.1 _ htm).2).1) rfl rfl Qe Qu (by omega))<|QA (Ji (n:=(el ts i.i).r.n) ((i2.j)*1) (fun F ⟨⟨⟨⟨hGl,hP,hW,hWs⟩,hC⟩,h22⟩,hD⟩=>((hP.2.1 _ htm).2).1) (by omega) rfl Qu (JR (o:=(el ts i.i).t.2) (by omega)))<|QA (QE rfl)<|QA (QE rfl)<|QF<|QD<|QB<|QA (QC rfl)<|QA (QC rfl)<|QA (QC rfl)<|QA (Jc (n:=n2) (i2.j) (fun F ⟨⟨⟨⟨hGl,hP,hW,hWs⟩,hC⟩,h22⟩,hD⟩=>hW) rfl rfl DX WM (by omega))<|QA (Ji (n:=n2) ((i2.j)*1) (fun F ⟨⟨⟨⟨hGl,hP,hW,hWs⟩,hC⟩,h22⟩,hD⟩=>hW) (by omega) rfl WM (NU (f:=fun e:W1=>e.1.v) (l:=ws) (by omega)))<|QA (QC rfl)<|QA (QC rfl) ?_
   rw [show(.int .i64 (Qf (el ts i.i).t.2 i2.j):Value) = .int .i64 (((Qf (el ts i.i).t.2 i2.j).toNat:Nat):Int) by rw [Int.toNat_of_nonneg hk1.1]]
   refine QH rfl (fun w F hF ⟨⟨⟨⟨hGl,hP,hW,hWs⟩,hC⟩,h22⟩,hD⟩=>ze (p:=el ws i2.j) hF hGl (hWs _ hem) hk (by omega) (by rw [← AJ hlw];exact(h1 _ htm _ hlt2).2)) (fun c38=>JK _ (fun w F hF ⟨⟨⟨⟨⟨hGl,hP,hW,hWs⟩,hC⟩,h22⟩,hD⟩,h38⟩=>And.intro hD.2.2.1 h38.2.2.1) (fun hde=>?_))
   obtain ⟨hde,h38e⟩:=hde
   refine QH rfl (fun w F hF ⟨⟨⟨⟨⟨hGl,hP,hW,hWs⟩,hC⟩,h22⟩,hD⟩,h38⟩=>Tj (N:=k) hF hGl (p:=i2.d) (q:=c38) (by rw [hde];exact hD) (by rw [h38e];exact h38) hk (by rw [hde,h38e,← AJ hlw];exact(h1 _ htm _ hlt2).1)) (fun c39=>?_)
   rw [hde,h38e,← AJ hlw]
   refine QA (QE rfl)<|QF<|Qm<|QD<|QB<|QA (Qw rfl rfl (by omega))<|QA (QC rfl)<|QF ?_
   exact Qo (⟨i2.j+1,c39,hlt2⟩) (by show(el ts i.i).t.2.length - (i2.j+1)<(el ts i.i).t.2.length - i2.j;omega) ⟨rfl,rfl,rfl,rfl,rfl,rfl,rfl,rfl,rfl,rfl,trivial⟩ (List.nil_sublist _) (fun F h=>⟨h.1.1.1,h.2⟩)
  ·
   have hge2:i2.j=(el ts i.i).t.2.length:=by have:=of_decide_eq_false hc;omega
   refine Q6 ?_
   repeat (first | refine Qc ?_ | refine QX (by rfl) ?_)
   refine Qd<|QD<|QB<|QA (QC rfl)<|QA (QC rfl)<|JK _ (fun w F hF ⟨⟨⟨⟨hGl,hP,hW,hWs⟩,hC⟩,h22⟩,hD⟩=>And.intro hC.2.2.1 hD.2.2.1) (fun hde=>?_)
   obtain ⟨hce,hde⟩:=hde
   rw [hge2] at hde
   refine QH rfl (fun w F hF ⟨⟨⟨⟨hGl,hP,hW,hWs⟩,hC⟩,h22⟩,hD⟩=>CU hF hGl (p:=i.c) (q:=i2.d) (by rw [hce];exact hC) (by rw [hde];rw [hge2] at hD;exact hD) (by rw [hce,hde];exact h2 _ hlt)) (fun c43=>?_)
   rw [hce,hde]
   refine QA (QE rfl)<|QF<|Qm<|QD<|QB<|QA (Qw rfl rfl (by omega))<|QA (QC rfl)<|QF ?_
   exact Qo (⟨i.i+1,c43,hlt⟩) (by show ts.length - (i.i+1)<ts.length - i.i;omega) ⟨rfl,rfl,rfl,rfl,rfl,rfl,trivial⟩ (List.nil_sublist _) (fun F h=>⟨h.1.1.1.1,by rw [Lt hlt];exact h.2⟩)
 ·
  have hge:i.i=ts.length:=by have:=of_decide_eq_false hc;omega
  refine Q6 ?_
  repeat (first | refine Qc ?_ | refine QX (by rfl) ?_)
  refine Qd<|QD<|QG<|QB<|QA (QC rfl)<|QA (QE rfl)<|QF<|QD<|QS ?_
  exact QQ (i.c) rfl (.tmp rfl .nil) (rfl) (fun F ⟨⟨hGl,hP,hW,hWs⟩,hC⟩=>by rw [hge,List.take_length] at hC;exact hC)
end
section
open Go.RowKit Ig
theorem jL {w:World} {F:Gs} {q:Option Addr} {n c:Nat} {l:List Int} (hF:Fits F w) (hR:JF F q n 1 (l.map Qz)) (hn:n≤1000000000):QW Tryz.prog 142 [.slice q n c] w F (.int .i64 (Qj l)):=by
 have hln:l.length=n:=by have:=hR.1;simpa using this
 have em:l=l.map (fun x=>x):=by simp
 refine QT.intro (G:=fun F=>JF F q n 1 (l.map Qz)) Tryz.func142 rfl (by rfl) rfl rfl hF (fun F' hF'=>hR.le hF')<|QG<|QB<|QA (QE rfl)<|QF<|QD<|QG<|QB<|QA (QE rfl)<|QF<|QD<|QG<|QG<|QB<|QA (QC rfl)<|QA (Ql rfl Zn)<|QA (QC rfl)<|QF<|QD<|Qa<|YU (ι:=Y5 l (fun x=>x)) [(3,_),(6,_),(7,_)] (fun i=>[(8,.int .i64 ((i.i:Nat):Int))]) (fun i=>l.length - i.i) (Y5.start _ _) ⟨rfl,rfl,rfl,trivial⟩ ⟨rfl,trivial⟩ (fun i=>?_)
 simp only [List.cons_append,List.nil_append]
 have hi:=i.le
 refine QG<|QB<|QA (QU rfl rfl rfl)<|QF<|QD<|QG ?_
 refine QO rfl (fun hc=>?_) (fun hc=>?_)
 ·
  have hlt:i.i<l.length:=by have:=of_decide_eq_true hc;omega
  refine QN<|QD<|QG<|Qa<|QG<|QB<|QA (Jc (n:=n) (i.i) (fun F hR=>hR) rfl rfl Zn Y3 (by omega))<|QA (Ji (n:=n) ((i.i)*1) (fun F hR=>hR) (by omega) rfl Y3 (JR (o:=l) (by omega)))<|QA (QE rfl)<|QF<|QD<|QG<|QB<|QA (QC rfl)<|QA (QC rfl)<|QA (QU rfl rfl rfl)<|QF<|QD ?_
  refine QO rfl (fun hc=>?_) (fun hc=>?_)
  ·
   refine QG<|QB<|QA (QC rfl)<|QA (QE rfl)<|QF<|QD<|QS ?_
   repeat (first | refine JN ?_ | refine JE ?_)
   exact QQ (()) rfl (.tmp rfl .nil) (congrArg (Value.int .i64) (by rw [X9 hlt,E5 l];exact i.hit hlt (by rw [← X9 hlt];simpa using hc))) (fun F hR=>trivial)
  ·
   refine QN<|Qm<|QD<|QB<|QA (Qw rfl rfl (by omega))<|QA (QC rfl)<|QF ?_
   exact Qo (i.next hlt (by rw [← X9 hlt];simpa using hc)) (by show l.length - (i.i+1)<l.length - i.i;omega) ⟨rfl,rfl,rfl,rfl,trivial⟩ (List.Sublist.refl _) (fun F h=>h)
 ·
  have hge:l.length≤i.i:=by have:=of_decide_eq_false hc;omega
  refine Q6 ?_
  repeat (first | refine Qc ?_ | refine QX (by rfl) ?_)
  refine Qd<|QD<|QG<|QB<|QA (QC rfl)<|QA (QE rfl)<|QF<|QD<|QS ?_
  exact QQ (()) rfl (.tmp rfl .nil) (congrArg (Value.int .i64) (by rw [E5 l];exact i.stop hge)) (fun F hR=>trivial)
structure Ir (ws:List (List Tm)) (k:Nat) (l:List Tm):Prop where
 mul:∀ t∈l,∀ j,j<t.2.length→DJ (Dt t.1 ws t.2 k j) (WZ (el ws j) k (Qf t.2 j).toNat) k∧∀ i,i<(Qf t.2 j).toNat→DJ (WZ (el ws j) k i) (el ws j) k
 add:∀ i,i<l.length→qU (Wj ws k (l.take i)) (Dt (el l i).1 ws (el l i).2 k (el l i).2.length)
 pw:∀ t∈Wj ws k l,PW t.2
 sz:∀ t∈Wj ws k l,JX t.1≤100000000
 len:(Wj ws k l).length≤1000000
def Fl (ls:List VF):List (List Tm):=ls.map fun e=>JM (XG e.2)
structure gQ (ls:List VF) where
 i:Nat
 v:Value
 ob:List (Nat×Obj)
 ws:List W1
 le:i≤ls.length
 hr:Q4 157 1 v i (ws.map fun e=>e.1.v) ob
 hx:Pe ws=Fl (ls.take i)
theorem gQ.len {ls:List VF} (s:gQ ls):s.ws.length=s.i:=by
 have:=congrArg List.length s.hx
 have h:=s.le
 simp only [Pe,Fl,List.length_map,List.length_take] at this;omega
theorem j4 {ls:List VF} {ws:List W1} {i:Nat} {c:W1} (h:Pe ws=Fl (ls.take i)) (hi:i<ls.length) (e:JL c.2=JM (XG (el ls i).2)):Pe (ws++[c])=Fl (ls.take (i+1)):=by
 have e1:Pe (ws++[c])=Pe ws++[JL c.2]:=by unfold Pe;rw [List.map_append];rfl
 rw [e1,h,e,ZL hi];unfold Fl;rw [List.map_append];rfl
theorem zG {ts:List XY} {i:Nat} (h:i<ts.length):(el ts i).t=el (JL ts) i:=by rw [Zi h,Zi (by simpa [JL] using h)];simp [JL]
theorem OO (ts:List XY) (i:Nat):JL (ts.take i)=(JL ts).take i:=by simp [JL,List.map_take]
theorem Lr {w:World} {F:Gs} {a:VF} {q:Option Addr} {n cap:Nat} {ls:List VF} {v u:Int} (hF:Fits F w) (hGl:JC F) (hP:YO F [a]) (hta:Vj a) (hR:JF F q n 1 (ls.map fun e=>e.1.v)) (hA:YO F ls) (hn:ls.length=n) (ht:∀ e∈ls,Vj e)
  (hv:0≤v∧v≤24) (hu:0≤u∧u≤24) (ha:X4 (XG a.2) v=0) (hnv:(n:Int)=v+1) (hall:WK ls u=0) (ho:Ir (Fl ls) (u+1).toNat (JM (XG a.2))) :
  QT Tryz.prog 44 [a.1.v,.int .i64 v,.slice q n cap,.int .i64 u] w F (fun(c:VF)=>.tuple #[c.1.v,.int .i64 (Da (Wj (Fl ls) (u+1).toNat (JM (XG a.2))))]) (fun c F=>Vh F c.1 c.2 (PK (Wj (Fl ls) (u+1).toNat (JM (XG a.2))))):=by
 have haa:a∈[a]:=by simp
 have hcv:Zo v=0:=(VB v).2 hv
 have hcu:Zo u=0:=(VB u).2 hu
 have oa:=V5 ha
 obtain ⟨_,ows⟩:=MJ hall
 have la:(JM (XG a.2)).length≤64:=by unfold JM;rw [List.length_map];exact oa.len
 have hpa:∀ t∈JM (XG a.2),PW t.2:=oa.pw hv.2
 have hwd:∀ t∈JM (XG a.2),t.2.length=n:=fun t ht=>by have:=oa.wide t ht;omega
 dsimp only [Sr.v]
 refine QT.intro (G:=fun F=>JC F∧YO F [a]∧JF F q n 1 (ls.map fun e=>e.1.v)∧YO F ls) Tryz.func44 rfl (by rfl) rfl rfl hF (fun F' hF'=>⟨hGl.le hF',hP.le hF',hR.le hF',hA.le hF'⟩)<|QG<|QB<|QA (QE rfl)<|QA (QE rfl)<|QF<|QD<|QG<|QG<|QB<|QA (QC rfl)<|QH rfl (fun w F hF ⟨hGl,hP,hR,hA⟩=>Gp hF ) (fun _=>QA (QC rfl)<|QH rfl (fun w F hF ⟨⟨hGl,hP,hR,hA⟩,_⟩=>Gp hF ) (fun _=>QV rfl (Q8 Zn) Y3 BA rfl rfl (fun b20=>QH rfl (fun w F hF ⟨⟨⟨⟨hGl,hP,hR,hA⟩,_⟩,_⟩,hs20⟩=>YB hF (JF.of (cs:=List.map Qz [Zo v,Zo u]) hs20 rfl) (by decide)) (fun _=>QA (QE rfl)<|QF<|QD<|QG<|QB<|QA (QC rfl)<|QA (QU rfl rfl rfl)<|QF<|QD ?_))))
 refine QO rfl (fun hc=>?_) (fun hc=>?_)
 ·exact absurd hc (by rw [hcv,hcu];decide)
 ·
  refine QN<|QD<|QG<|QG<|QB<|QA (QC rfl)<|QA (QC rfl)<|QH rfl (fun w F hF ⟨⟨⟨⟨⟨hGl,hP,hR,hA⟩,_⟩,_⟩,hs20⟩,_⟩=>Bz hF hGl ((hP a haa).1) ((hP a haa).2) (hta.1) (hta.2.1) (hta.2.2) (hv)) (fun _=>QA (QC rfl)<|QA (Ql rfl EA)<|QA (QC rfl)<|QA (Qw rfl rfl (by omega))<|QA (QU rfl rfl rfl)<|QH rfl (fun w F hF ⟨⟨⟨⟨⟨⟨hGl,hP,hR,hA⟩,_⟩,_⟩,hs20⟩,_⟩,_⟩=>Zx hF ) (fun _=>QV rfl (Q8 Zn) Y3 BA rfl rfl (fun b34=>QH rfl (fun w F hF ⟨⟨⟨⟨⟨⟨⟨⟨hGl,hP,hR,hA⟩,_⟩,_⟩,hs20⟩,_⟩,_⟩,_⟩,hs34⟩=>jL hF (JF.of (cs:=List.map Qz [X4 (XG a.2) v,if((n:Int) != v+1)=true then 2 else 0]) hs34 rfl) (by decide)) (fun _=>QA (QE rfl)<|QF<|QD<|QG<|QB<|QA (QC rfl)<|QA (QU rfl rfl rfl)<|QF<|QD ?_))))
  refine QO rfl (fun hc=>?_) (fun hc=>?_)
  ·exact absurd hc (by rw [ha,if_neg (by simp [hnv])];decide)
  ·
   refine QN<|QD<|QG<|QG<|QB<|QA (QC rfl)<|QA (QC rfl)<|QH rfl (fun w F hF ⟨⟨⟨⟨⟨⟨⟨⟨⟨hGl,hP,hR,hA⟩,_⟩,_⟩,hs20⟩,_⟩,_⟩,_⟩,hs34⟩,_⟩=>H6 hF hGl (hR) (hA) (hn) (by omega) (ht)) (fun _=>QA (QE rfl)<|QF<|QD<|QG<|QB<|QA (QC rfl)<|QA (QU rfl rfl rfl)<|QF<|QD ?_)
   refine QO rfl (fun hc=>?_) (fun hc=>?_)
   ·exact absurd hc (by rw [hall];decide)
   ·
    refine QN<|QD<|QG<|QB<|QA (QE rfl)<|QF<|QD<|QG<|QG<|QB<|QA (QC rfl)<|QA (Ql rfl EA)<|QA (QC rfl)<|QF<|QD<|Qa<|Jz (ι:=gQ ls) [(0,_),(3,_),(45,_),(46,_)] (fun i=>[(13,i.v),(47,.int .i64 ((i.i:Nat):Int))]) (fun i=>i.ob) (fun i F=>U6 F i.ws) (fun i=>ls.length - i.i) (⟨0,_,[],[],Nat.zero_le _,.nil,rfl⟩) ⟨rfl,rfl,rfl,rfl,trivial⟩ ⟨rfl,rfl,trivial⟩ (List.Sublist.refl _) (fun _ _ _ h=>by cases h) (fun i=>?_)
    simp only [List.cons_append,List.nil_append]
    have hi:=i.le
    refine QG<|QB<|QA (QU rfl rfl rfl)<|QF<|QD<|QG ?_
    refine QO rfl (fun hc=>?_) (fun hc=>?_)
    ·
     have hlt:i.i<ls.length:=by have:=of_decide_eq_true hc;omega
     have hem:=Je hlt
     refine QN<|QD<|QG<|Qa<|QG<|QB<|QA (Jc (n:=n) (i.i) (fun F ⟨⟨⟨⟨⟨⟨⟨⟨⟨⟨⟨hGl,hP,hR,hA⟩,_⟩,_⟩,hs20⟩,_⟩,_⟩,_⟩,hs34⟩,_⟩,_⟩,hWs⟩=>hR) rfl rfl EA Mm (by omega))<|QA (Ji (n:=n) ((i.i)*1) (fun F ⟨⟨⟨⟨⟨⟨⟨⟨⟨⟨⟨hGl,hP,hR,hA⟩,_⟩,_⟩,hs20⟩,_⟩,_⟩,_⟩,hs34⟩,_⟩,_⟩,hWs⟩=>hR) (by omega) rfl Mm (NU (f:=fun e:VF=>e.1.v) (l:=ls) (by omega)))<|QA (QE rfl)<|QF<|QD<|QB<|QA (QC rfl)<|QA (QC rfl)<|QH rfl (fun w F hF ⟨⟨⟨⟨⟨⟨⟨⟨⟨⟨⟨hGl,hP,hR,hA⟩,_⟩,_⟩,hs20⟩,_⟩,_⟩,_⟩,hs34⟩,_⟩,_⟩,hWs⟩=>Vn hF hGl (a:=el ls i.i) (hA _ hem).1 (hA _ hem).2 (ht _ hem) (ows _ hem) hu) (fun c53=>JK _ (fun w F hF h=>h.2.2.2.1) (fun e53=>QV rfl (Q8 DX) WM OH rfl rfl (fun b54=>?_)))
     rw [← List.append_nil i.ob]
     refine D2 (n:=i.i) (k:=1) (sz:=1) (news:=[c53.1.v]) rfl rfl DX WM OH rfl yS i.hr (Src.row (off:=0) (fun F ⟨⟨⟨⟨⟨⟨⟨⟨⟨⟨⟨⟨⟨hGl,hP,hR,hA⟩,_⟩,_⟩,hs20⟩,_⟩,_⟩,_⟩,hs34⟩,_⟩,_⟩,hWs⟩,h53⟩,hs54⟩=>hs54) (fun j v hv=>by rw [Nat.zero_add];rw [List.getElem?_toArray];exact hv) rfl) (by omega) (by omega) (fun v hv=>by rw [List.mem_singleton.1 hv];rfl) (fun v55 ob55 hr55=>?_)
     refine QA (QE rfl)<|QF<|Qm<|QD<|QB<|QA (Qw rfl rfl (by omega))<|QA (QC rfl)<|QF ?_
     exact Qo (⟨i.i+1,v55,ob55,i.ws++[c53],hlt,by rw [List.map_append];exact hr55,j4 i.hx hlt e53⟩) (by show ls.length - (i.i+1)<ls.length - i.i;omega) ⟨rfl,rfl,rfl,rfl,rfl,rfl,trivial⟩ (List.sublist_append_left _ _) (fun F ⟨⟨⟨hB,hWs⟩,h53⟩,_⟩=>⟨hB,fun e he=>by
   rcases List.mem_append.1 he with he | he
   ·exact hWs e he
   ·rw [List.mem_singleton.1 he,e53];exact h53⟩)
    ·
     have hge:i.i=ls.length:=by have:=of_decide_eq_false hc;omega
     refine Q6 ?_
     repeat (first | refine Qc ?_ | refine QX (by rfl) ?_)
     refine Qd<|QD<|QG<|QB ?_
     have hxl:=i.len
     have hwa:Pe i.ws=Fl ls:=by rw [i.hx,hge,List.take_length]
     obtain ⟨⟨rq,rn,rc⟩,hv2,hrn,hrc,hfix⟩:=Q4.fix (w0:=w) (F0:=F) (bs1:=[]) (G:=_) i.hr
     dsimp only at hrn hrc hfix
     subst hrn
     refine D1 hfix ?_
     rw [hv2]
     dsimp only [Sr.v]
     refine QA (QC rfl)<|QH rfl (fun w F hF ⟨⟨⟨⟨⟨⟨⟨⟨⟨⟨⟨⟨hGl,hP,hR,hA⟩,_⟩,_⟩,hs20⟩,_⟩,_⟩,_⟩,hs34⟩,_⟩,_⟩,hWs⟩,hrow⟩=>Vn hF hGl (a:=a) (hP a haa).1 (hP a haa).2 hta oa hv) (fun c58=>JK _ (fun w F hF h=>And.intro h.2.2.2.1 h.2.len) (fun h58p=>?_))
     obtain ⟨e58,l58⟩:=h58p
     refine QA (QC rfl)<|QA (QC rfl)<|QA (Qw rfl rfl (by omega)) ?_
     rw [show(.int .i64 (u+1):Value) = .int .i64 ((((u+1).toNat:Nat)):Int) by rw [Int.toNat_of_nonneg (by omega)]]
     refine QH rfl (fun w F hF ⟨⟨⟨⟨⟨⟨⟨⟨⟨⟨⟨⟨⟨hGl,hP,hR,hA⟩,_⟩,_⟩,hs20⟩,_⟩,_⟩,_⟩,hs34⟩,_⟩,_⟩,hWs⟩,hrow⟩,h58⟩=>Al (k:=(u+1).toNat) (ts:=c58.2) (ws:=i.ws) hF hGl (by rw [e58];exact h58) hrow hWs hxl (by omega) (by omega)
      (XJ (Q:=fun t=>t.2.length≤i.i∧PW t.2) e58 fun t ht=>⟨Nat.le_of_eq ((hwd t ht).trans (hge.trans hn).symm),hpa t ht⟩)
      (by rw [hwa];exact XJ (Q:=fun t=>∀ j,j<t.2.length→DJ (Dt t.1 (Fl ls) t.2 (u+1).toNat j) (WZ (el (Fl ls) j) (u+1).toNat (Qf t.2 j).toNat) (u+1).toNat∧∀ i,i<(Qf t.2 j).toNat→DJ (WZ (el (Fl ls) j) (u+1).toNat i) (el (Fl ls) j) (u+1).toNat) e58 ho.mul)
      (fun j hj=>by rw [hwa,zG hj,OO,e58];exact ho.add j (by omega))) (fun c62=>?_)
     refine JK _ (fun w F hF h=>And.intro h.2.2.2.1 h.2.len) (fun h62p=>?_)
     obtain ⟨e62,l62⟩:=h62p
     rw [hwa,e58] at e62 l62
     refine QH rfl (fun w F hF ⟨⟨⟨⟨⟨⟨⟨⟨⟨⟨⟨⟨⟨⟨hGl,hP,hR,hA⟩,_⟩,_⟩,hs20⟩,_⟩,_⟩,_⟩,hs34⟩,_⟩,_⟩,hWs⟩,hrow⟩,h58⟩,h62⟩=>GB hF (q:=c62.1.q) (n:=c62.1.n) (cap:=c62.1.cap) (ts:=c62.2) (by rw [e62];rw [hwa,e58] at h62;exact h62) hGl (XJ e62 ho.pw) (XJ (Q:=fun t=>JX t.1≤100000000) e62 ho.sz) (by rw [l62];exact ho.len)) (fun c63=>?_)
     rw [e62]
     refine QA (QK rfl rfl)<|QA (QK rfl rfl)<|QA (QE rfl)<|QA (QE rfl)<|QF<|QD<|QS ?_
     exact JH (c63) rfl (.tmp rfl (.tmp rfl .nil)) (rfl) (fun F ⟨_,h63⟩=>h63)
end
section
open Go.RowKit Ig
structure Open (F:Fence):Prop where
 fn:∀ f,F.fn f
 depth:F.depth=none
 calls:∀ {n:Nat} {P:Program} {f:FuncId} {args:Array Value} {w:World} {R:Ending→World→Prop},Calls P f args w R→CallsIn F n P f args w R
 rows:∀ {n:Nat} {P:Program} {row:String} {args:Array Value} {w:World} {R:Value→World→Prop},Rows P row args w R→RowsIn F n P row args w R
theorem Dd:Open Fence.wide where
 fn:=fun _=>trivial
 depth:=rfl
 calls:=fun h=>callsIn_wide.2 h
 rows:=fun h c cs _=>by
  obtain ⟨v,w',h1,h2⟩:=h c cs
  exact⟨v,w',h1,stepsIn_wide.2 h2⟩
theorem X5 (l:Nat):Open (Fence.wide.inRound l) where
 fn:=fun _=>trivial
 depth:=rfl
 calls:=fun h=>(callsIn_wide.2 h:CallsIn Fence.wide _ _ _ _ _ _)
 rows:=fun h=>Dd.rows h
section
variable {F:Fence} {P:Program}
theorem Open.op (hF:Open F) {o:Oper} (hnd:∀ c,o.op≠.defer c) {a:Act} {w:World} {K K':Act→World→Prop} {Q1 Q:Exit→Act→World→Prop} (hp:∀ c a w,Q1 (.panic c) a w→Q (.panic c) a w) (hl:∀ a w,Q1 .outgrown a w→Q .outgrown a w) (hK:∀ a w,K a w→K' a w) (h:o.wp P a w K Q1):o.wpIn F 0 P a w K' Q:=by
 unfold Oper.wp at h
 unfold Oper.wpIn
 refine⟨fun f _=>hF.fn f,?_⟩
 rw [Oper.semAt_plain F a.eval o hnd]
 generalize (execOp a.eval o).run P w=r at *
 have hd:F.depth.isSome=true→1≤0:=fun e=>by rw [hF.depth] at e;cases e
 cases r with
 |ok x w' =>
  cases x<;>simp only [Oper.upon,Oper.uponIn] at h ⊢ <;>
   first
    |exact hK _ _ h
    |exact⟨hd,hF.calls (h.mono fun e w'' he=>by
      cases e with
      |returned u=>exact hK _ _ he
      |panicked c=>exact hp _ _ _ he
      |outgrown=>obtain ⟨a,w,h⟩:=he;exact⟨a,w,hl _ _ h⟩)⟩
    |exact⟨hd,hF.rows (h.mono fun _ _ he=>hK _ _ he)⟩
 |halt x w'=>cases x<;>simp only [Oper.upon,Oper.uponIn] at h ⊢<;>exact hp _ _ _ h
def Wc (l:List Oper):Bool:=l.all fun o=>match o.op with | .defer _=>false | _=>true
theorem NM {o:Oper} (h:(match o.op with | .defer _=>false | _=>true)=true):∀ c,o.op≠.defer c:=fun c e=>by rw [e] at h;cases h
theorem Open.list (hF:Open F) {ops:Array Oper} {Q:Exit→Act→World→Prop} (hQ:¬ LetsOut Q):∀ (l:List Oper) (a:Act) (w:World),Wc l=true→wpList P ops Q l a w→wpListIn F 0 P ops Q l a w
 |[],_,_,_,h=>h
 |o::rest,a,w,hd,h=>by
  simp only [Wc,List.all_cons,Bool.and_eq_true] at hd
  unfold wpList at h
  unfold wpListIn
  split
  ·rename_i hw
   rw [if_pos hw] at h
   rcases h with h | ⟨_,h⟩
   ·exact hF.op (NM hd.1) (fun _ _ _ h=>h) (fun _ _ h=>h) (fun a w h=>hF.list hQ rest a w hd.2 h) h
   ·exact absurd h hQ
  ·rename_i hw
   rw [if_neg hw] at h
   exact⟨fun f _=>hF.fn f,hF.list hQ rest _ _ hd.2 h⟩
end
section
variable [Dr] [df:Df] {F:Fence} {P:Program} {Q:Exit→Act→World→Prop} {N:Nat} {m:Sl} {E:Env}
def JI (F:Fence) (P:Program) (c:Code) (Q:Exit→Act→World→Prop) (N:Nat) (m:Sl) (E:Env):Prop:=∀ a w,Js N m a→St E w→c.wpIn F 0 P Q a w
theorem GV {x y:Code} (h:JI F P x (Exit.then (y.wpIn F 0 P Q) Q) N m E):JI F P (.seq x y) Q N m E:=fun a w ha hw=>wpIn_seq (h a w ha hw)
theorem AB {id:Nat} {c:Code} (h:JI F P c (Exit.inBlock id Q) N m E):JI F P (.block id c) Q N m E:=fun a w ha hw=>wpIn_block (h a w ha hw)
theorem xN (h:Fin Q .normal N m E):JI F P .skip Q N m E:=fun a w ha hw=>wpIn_skip (h a w ha hw)
theorem Im {c:Operand} {x y:Code} {t:Bool} (hc:ev m c=some (.bool t)) (ht:t=true→JI F P x Q N m E) (hf:t=false→JI F P y Q N m E):JI F P (.cond c x y) Q N m E :=
 fun a w ha hw=>wpIn_cond_split (ha.ev hc) (fun h=>ht h a w ha hw) (fun h=>hf h a w ha hw)
theorem ZW (hF:Open F) {id:Nat} {l:List Oper} (hQ:¬ LetsOut Q) (hd:Wc l=true) (h:JS P l.toArray Q l N m E):JI F P (.region id l.toArray false) Q N m E :=
 fun a w ha hw=>wpIn_region_lit (hF.list hQ l a w hd (h a w ha hw))
theorem Vy {y:Code} (h:JI F P y Q N m E):Fin (Exit.then (y.wpIn F 0 P Q) Q) .normal N m E:=h
section
variable {w0:World} {F0:Gs} {bs:List (Nat×Obj)} {G:Gs→Prop} {l:Nat} {r:Loop} {f:Obj→List (Nat×Obj)}
theorem St.put {w:World} (h:St ⟨w0,F0,bs,G⟩ w) {b:Nat} {o:Obj} (o':Obj) (ho:Own bs b o f) (hn:∀ c fr,o'≠.cells c 248 fr):St ⟨w0,F0,f o',G⟩ (w.putObj b o'):=by
 obtain ⟨pre,post,e1,e2⟩:=ho.split
 subst e1
 rw [e2]
 exact h.write pre ⟨rfl,rfl,rfl,rfl,rfl⟩ hn
theorem Iq {body:Code} {Qr:Exit→Act→World→Prop} (ho:Own bs l (.loop r) f) (hr:r.state = .ready) (k:JI F P body Qr N m ⟨w0,F0,f (.loop { r with state:=.busy }),G⟩) :
  Fin (Exit.then (fun a₁ w₁=>∃ w₂,(Instr.beginRound l).run P w₁ = .ok () w₂∧body.wpIn F 0 P Qr a₁ w₂) (fun _ _ _=>False)) .normal N m ⟨w0,F0,bs,G⟩ :=
 fun a w ha hw=>⟨_,run_beginRound (hw.own ho) hr,k a _ ha (hw.put _ ho (fun c fr e=>by cases e))⟩
theorem Ip {R:Ending→World→Prop} (ho:Own bs l (.loop r) f) (k:∀ w,St ⟨w0,F0,f (.loop { r with state:=.ready,pending:=none }),G⟩ w→R (.returned (.bool true)) w):Fin (roundPost P l R) .normal N m ⟨w0,F0,bs,G⟩ :=
 fun a w ha hw=>⟨_,_,run_endRound none (hw.own ho),k _ (hw.put _ ho (fun c fr e=>by cases e))⟩
end
end
section
variable [Dr] {P:Program} {w0:World} {F0:Gs} {bs:List (Nat×Obj)} {G:Gs→Prop} {l:Nat} {r:Loop} {f:Obj→List (Nat×Obj)}
def Rs (r:Loop) (vs:Array Value):Act:={ tmps:=(r.params.zip vs).foldl (fun tmps (t,a)=>tmps.setIfInBounds t a) r.tmps,defers:=[] }
theorem Mh {W:World} {vs:Array Value} {R:Ending→World→Prop} {N:Nat} {m:Sl} (hst:St ⟨w0,F0,bs,G⟩ W) (ho:Own bs l (.loop r) f) (hsz:vs.size=r.params.size) (hsl:Js N m (Rs r vs))
  (h:JI (Fence.wide.inRound l) P r.assign (Exit.then (fun a₁ w₁=>∃ w₂,(Instr.beginRound l).run P w₁ = .ok () w₂∧r.body.wpIn (Fence.wide.inRound l) 0 P (roundPost P l R) a₁ w₂) (fun _ _ _=>False)) N m ⟨w0,F0,bs,G⟩) :
  YieldAt Fence.wide 0 P l vs W R :=
 ⟨_,_,_,_,run_yield (hst.own ho) hsz,roundIn_of_wpIn trivial (h _ W hsl hst)⟩
end
section
variable [Dr] [df:Df] {P:Program} {Q:Exit→Act→World→Prop} {N:Nat} {m:Sl} {E E0:Env} {ops:Array Oper} {l:List Oper} {w0:World} {F0:Gs} {bs:List (Nat×Obj)} {G:Gs→Prop}
def vL (P:Program) (ops:Array Oper) (Q:Exit→Act→World→Prop) (l:List Oper) (N:Nat) (m:Sl) (E:Env):Prop:=∀ a w,Js N m a→St E w→wpListIn Fence.wide 0 P ops Q l a w
theorem yp (hQ:¬ LetsOut Q) (hd:Wc l=true) (h:JS P ops Q l N m E):vL P ops Q l N m E:=fun a w ha hw=>Dd.list hQ l a w hd (h a w ha hw)
theorem OB {x:Operand} {d r:Nat} {args:Array Operand} {tys:Array TypeId} {vs:List Value} {ty:TypeId} {pos:String} {aft:Array Edge} {ι:Type} {E':ι→Env} (hx:ev m x=some (.func (.yield r) #[] #[])) (hv:En m args.toList=some vs)
  (hy:∀ w,St E w→YieldAt Fence.wide 0 P r vs.toArray w fun e w'=>e = .returned (.bool true)∧∃ s,St (E' s) w')
  (k:∀ s,vL P ops Q l N ((d,.bool true)::m) (E' s)) (hd:J4 N (some d)=true:=by rfl):vL P ops Q (⟨some d,.call ⟨.value x,args,tys⟩,ty,pos,aft,none⟩::l) N m E:=by
 intro a w ha hw
 refine wpListIn_plain rfl fun K hK=>?_
 obtain ⟨fn,tmps,assign,body,hr,hR⟩:=hy w hw
 refine⟨fun f _=>trivial,?_⟩
 have e2:args.map a.eval=vs.toArray:=by rw [← ha.En hv];apply Array.ext';simp
 have hrun:(execOp a.eval ⟨some d,.call ⟨.value x,args,tys⟩,ty,pos,aft,none⟩).run P w = .ok (.round r fn tmps assign body) w:=by
  simp only [execOp,resolve,ha.ev hx,Deferred.ofValue,Sem.run_bind,Sem.run_pure,Result.andThen_ok,invoke,e2]
  simpa using hr
 rw [Oper.semAt_plain Fence.wide a.eval _ (fun c e=>by cases e),hrun]
 refine⟨fun e=>(by cases e),hR.mono ?_⟩
 rintro e w' ⟨rfl,s,hs⟩
 exact hK _ _ (k s _ w' (ha.put hd (.bool true)) hs)
theorem qS {ops':Array Oper} {l':List Oper} (h:vL P ops' Q l' N m E):JD P ops (Xu (fun a w=>wpListIn Fence.wide 0 P ops' Q l' a w)) E0 [] N m E:=fun _=>h
section
variable {md:Region.Mode}
theorem AM {l:List Oper} {n i:Nat} {K0 K:Act→World→Prop} {a:Act} {w:World} (hi:i<n) (hgd:Br l.toArray n=true) (hnd:Wc l=true)
  (h:wpOp P (l.take n).toArray (Xu K0) i K a w):wpOpIn Fence.wide 0 P l.toArray Q i K a w:=by
 unfold wpOp at h
 unfold wpOpIn
 rw [GK hi] at h
 cases ho:l.toArray[i]? with
 |none=>simp only [ho] at h ⊢;exact h
 |some o =>
  simp only [ho] at h ⊢
  have hw:Region.wanted o (yielded (l.take n).toArray a.tmps)=Region.wanted o (yielded l.toArray a.tmps):=by
   have h1:=List.all_eq_true.1 hgd i (List.mem_range.2 hi)
   rw [ho] at h1
   unfold Region.wanted
   cases hg:o.guard with
   |none=>rfl
   |some gw =>
    obtain ⟨g,want⟩:=gw
    simp only [hg] at h1
    simp only [BC (l:=l) (by simpa using h1)]
  rw [hw] at h
  have hmem:o∈l:=by
   have:l[i]?=some o:=by simpa using ho
   exact List.mem_of_getElem? this
  split
  ·rename_i hw2
   rw [if_pos hw2] at h
   rcases h with h | ⟨_,h2⟩
   ·exact Dd.op (NM (List.all_eq_true.1 hnd o hmem)) (fun _ _ _ h=>h.elim) (fun _ _ h=>h.elim) (fun _ _ h=>h) h
   ·obtain ⟨_,_,h2⟩:=h2;exact h2.elim
  ·rename_i hw2
   rw [if_neg hw2] at h;exact⟨fun _ _=>trivial,h⟩
theorem BD {ops:Array Oper}:∀ (f:Nat) (listed:Array Bool) (a:Act) (w:World),wpAnyIn Fence.wide 0 P md ops Q f listed a w→wpAnyIn Fence.wide 0 P md ops Q (f+1) listed a w
 |0,listed,a,w,h=>⟨fun _=>h.2,fun i hi=>(by rw [h.1] at hi;cases hi)⟩
 |f+1,listed,a,w,h=>⟨h.1,fun i hi=>wpOpIn_mono (fun a' w' h'=>BD f _ a' w' h') (h.2 i hi)⟩
theorem PI {ops:Array Oper} (f:Nat) (listed:Array Bool) (a:Act) (w:World) (g:Nat) (h:wpAnyIn Fence.wide 0 P md ops Q g listed a w):wpAnyIn Fence.wide 0 P md ops Q (f+g) listed a w:=by
 induction f with
 |zero=>rw [Nat.zero_add];exact h
 |succ f ih=>rw [show f+1+g=(f+g)+1 by omega];exact BD _ _ _ _ ih
theorem W2:∀ (l:List Oper) (k:Nat) (listed:Array Bool) (a:Act) (w:World),(∀ j,l[j]?=ops[k+j]?) →
  Region.seqB md ops l.length k listed=true→wpListIn Fence.wide 0 P ops Q l a w→wpAnyIn Fence.wide 0 P md ops Q l.length listed a w
 |[],_,_,_,_,_,hB,h=>⟨by simpa [Region.seqB] using hB,h⟩
 |o::l,k,listed,a,w,hl,hB,h=>by
  have h0:ops[k]?=some o:=by simpa using (hl 0).symm
  simp only [List.length_cons,Region.seqB,Bool.and_eq_true,decide_eq_true_eq] at hB
  refine⟨fun h1=>(by rw [hB.1] at h1;cases h1),fun i hi=>?_⟩
  rw [hB.1] at hi
  have hik:i=k:=by simpa using hi
  subst hik
  have hw:wpOpIn Fence.wide 0 P ops Q i (wpListIn Fence.wide 0 P ops Q l) a w:=by unfold wpOpIn;simp only [h0];exact h
  exact wpOpIn_mono (fun a' w' h'=>W2 l (i+1) _ a' w' (fun j=>by have:=hl (j+1);simpa [Nat.add_assoc,Nat.add_comm 1 j] using this) hB.2 h') hw
theorem PH {l:List Oper} {n:Nat} (hn:n<l.length) (hs:Region.sinkB md l.toArray n=true) (hc:Region.chainB md l.toArray n=true) (ho:KS md l.toArray n=true)
  (hgd:Br l.toArray n=true) (hseq:Region.seqB md l.toArray (l.length - n) n (Z1 n l.length)=true) (hnd:Wc l=true) :
  ∀ (f:Nat) (lh la:Array Bool) (a:Act) (w:World),HeadInv md l.toArray n la→lh.size=n→(∀ i,i<n→la.getD i true=lh.getD i true) →
   wpAny P md (l.take n).toArray (Xu (fun a w=>wpListIn Fence.wide 0 P l.toArray Q (l.drop n) a w)) f lh a w→wpAnyIn Fence.wide 0 P md l.toArray Q (f+(l.length - n)) la a w:=by
 have fin:∀ (f:Nat) (lh la:Array Bool) (a:Act) (w:World),HeadInv md l.toArray n la→lh.size=n→(∀ i,i<n→la.getD i true=lh.getD i true) →
   Region.ready md (l.take n).toArray lh=[]→wpListIn Fence.wide 0 P l.toArray Q (l.drop n) a w→wpAnyIn Fence.wide 0 P md l.toArray Q (f+(l.length - n)) la a w:=by
  intro f lh la a w inv hsz hrel hr h
  have hall:∀ i,i<n→lh.getD i true=true:=by
   intro i hi
   cases hv:lh.getD i true with
   |true=>rfl
   |false=>exact absurd hr (WT hn hs hc ho inv hsz hrel hi hv).2
  have hla:la=Z1 n l.length:=by
   refine EK (by simpa using inv.size) (fun i hi hi2=>?_) (fun i hi hi2=>?_)
   ·have h1:=(hrel i hi).trans (hall i hi)
    have h2:i<la.size:=by rw [inv.size];simpa using hi2
    simp [h2] at h1 ⊢;exact h1
   ·exact getD_both (inv.tail i hi (by simpa using hi2))
  subst hla
  refine PI f _ _ _ _ ?_
  have:=W2 (P:=P) (Q:=Q) (md:=md) (ops:=l.toArray) (l.drop n) n (Z1 n l.length) a w (fun j=>by simp [List.getElem?_drop]) (by simpa using hseq) h
  simpa using this
 intro f
 induction f with
 |zero=>intro lh la a w inv hsz hrel h;exact fin 0 lh la a w inv hsz hrel h.1 h.2
 |succ f ih =>
  intro lh la a w inv hsz hrel h
  by_cases hr:Region.ready md (l.take n).toArray lh=[]
  ·exact fin (f+1) lh la a w inv hsz hrel hr (h.1 hr)
  ·obtain ⟨k,hk⟩:=List.exists_mem_of_ne_nil _ hr
   have hk2:=(mem_ready.1 hk)
   have hkn:k<n:=by
    obtain ⟨_,o,ho',_⟩:=hk2
    have:=(Array.getElem?_eq_some_iff.1 ho').1
    simp at this;omega
   have hiff:=(WT hn hs hc ho inv hsz hrel hkn hk2.1).1
   rw [show f+1+(l.length - n)=(f+(l.length - n))+1 by omega]
   refine⟨fun h0=>absurd ((hiff k).2 hk) (by rw [h0];simp),fun i hi=>?_⟩
   have hi':=(hiff i).1 hi
   have hin:i<n:=by
    obtain ⟨_,o,ho',_⟩:=mem_ready.1 hi'
    have:=(Array.getElem?_eq_some_iff.1 ho').1
    simp at this;omega
   have h2:=AM (Q:=Q) hin hgd hnd (h.2 i hi')
   refine wpOpIn_mono (fun a' w' h3=>ih _ _ a' w' (inv.set hi hin) (by simpa using hsz) (fun j hj=>?_) h3) h2
   by_cases hij:i=j
   ·subst hij
    have h1:i<la.size:=by rw [inv.size];simp;omega
    have h2:i<lh.size:=by omega
    simp [h1,h2]
   ·rw [getD_set_ne true hij,getD_set_ne true hij];exact hrel j hj
theorem Sv {id:Nat} {l:List Oper} {bs0:List (Nat×Obj)} (n:Nat) (hb0:bs0.Sublist bs) (hm:P.follows .mixedOrders=true) (hB:Hl l n=true) (hB2:lexB .any (l.take n)=true) (hnd:Wc l=true)
  (h:JD P (l.take n).toArray (Xu (fun a w=>wpListIn Fence.wide 0 P l.toArray Q (l.drop n) a w)) ⟨w0,F0,bs0,G⟩ (l.take n) N m ⟨w0,F0,bs,G⟩):J P (.region id l.toArray true) Q N m ⟨w0,F0,bs,G⟩:=fun a w ha hw=>by
 have h1:=h (fun _ h=>h.imp hb0 fun _ h=>h) a _ ha hw.drew
 have h2:=V0 (P:=P) (S:=St ⟨w0,F0,bs0,G⟩) hB2 (fun c a w h=>h) (hw.drew.imp hb0 fun _ h=>h) h1
 simp only [Hl,Bool.and_eq_true,decide_eq_true_eq] at hB
 obtain ⟨⟨⟨⟨⟨hn,hs⟩,hc⟩,ho⟩,hg⟩,hseq⟩:=hB
 refine(wpIn_wide (n:=0)).1 (wpIn_region_any hm ?_)
 have inv0:HeadInv .any l.toArray n (Array.replicate l.toArray.size false) :=
  ⟨by simp,fun j oj _ hl=>(by rw [getD_replicate_false] at hl;cases hl),fun t _ ht=>getD_in (by simpa using ht) (getD_replicate_false _ _)⟩
 have e:(l.take n).length=n:=by simp;omega
 rw [e] at h2
 have:=PH (P:=P) (md:=.any) (Q:=Q) hn hs hc ho hg hseq hnd n (Array.replicate n false) (Array.replicate l.toArray.size false) a { w with drawn:=w.drawn+1 } inv0 (by simp)
  (fun i hi=>by
   have h1:i<l.length:=(by omega)
   simp [hi,h1]) h2
 rw [show n+(l.length - n)=l.toArray.size by simp;omega] at this
 exact this
end
end
section
variable [Dr] {P:Program} {Q:Exit→Act→World→Prop} {N:Nat} {m:Sl} {w0:World} {F0:Gs} {bs:List (Nat×Obj)} {G:Gs→Prop}
@[reducible] def Hv (D:Nat):Df:=⟨[{ target:=.collected D,args:=#[] }]⟩
structure qR (N:Nat) (m:Sl) (ps:Array Tmp) (assign body:Code) (r:Loop):Prop where
 state:r.state = .ready
 gp:r.pending=none
 params:r.params=ps
 assign:r.assign=assign
 body:r.body=body
 kB:Js (df:=VQ) N m { tmps:=r.tmps,defers:=[] }
theorem U8 {g:Operand} {ps:Array Tmp} {assign body:Code} {gf:Nat} {lb:Array Value} {ι:Type} (B:ι→List (Nat×Obj)) (R:ι→Gs→Prop) (Dn:ι→Prop) (hg:ev m g=some (.func (.func gf) #[] lb)) (he:Enters P gf)
  (hcall:∀ (L D:Nat) (r:Loop) (w:World),qR N m ps assign body r→St ⟨w0,F0,(L,.loop r)::(D,.deferred (some []))::bs,G⟩ w →
   Calls P gf (#[.func (.yield L) #[] #[]]++lb) w fun e w'=>(∃ v,e = .returned v)∧∃ s,Dn s∧St ⟨w0,F0,(L,.loop r)::(D,.deferred (some []))::B s,fun F=>G F∧R s F⟩ w')
  (k:∀ D s,Dn s→Fin (df:=Hv D) Q .normal N m ⟨w0,F0,(D,.deferred (some []))::B s,fun F=>G F∧R s F⟩):J (df:=VQ) P (.rangeFunc g ps assign body) Q N m ⟨w0,F0,bs,G⟩:=fun a w ha hw=>by
 refine(wpIn_wide (n:=0)).1 (wpIn_rangeFunc fun fn _=>?_)
 obtain ⟨r,hr⟩:∃ r:Loop,r={ state:=.ready,pending:=none,fn,tmps:=a.tmps,params:=ps,assign,body,defers:=w.heap.size }:=⟨_,rfl⟩
 have hs1:St ⟨w0,F0,(w.heap.size+1,.loop r)::(w.heap.size,.deferred (some []))::bs,G⟩ ((w.alloc (.deferred (some []))).alloc (.loop r)):=by
  have h1:=hw.alloc (.deferred (some [])) (fun c fr e=>by cases e)
  have h2:=h1.alloc (.loop r) (fun c fr e=>by cases e)
  rwa [World.size_alloc] at h2
 have hd:a.defers=[]:=ha.df
 refine⟨w.heap.size+1,[{ target:=.collected w.heap.size,args:=#[] }],(w.alloc (.deferred (some []))).alloc (.loop r),{ target:=.fn (.func gf) lb,args:=#[.func (.yield (w.heap.size+1)) #[] #[]] },(w.alloc (.deferred (some []))).alloc (.loop r),gf,
  #[.func (.yield (w.heap.size+1)) #[] #[]]++lb,(w.alloc (.deferred (some []))).alloc (.loop r),?_,?_,fun _ _=>trivial,?_,fun e=>(by cases e),?_⟩
 ·rw [hr];exact run_enterLoop_outer _ _ _ _ _
 ·simp only [resolve,ha.ev hg]
  simp [go_sem]
 ·simpa [invoke,go_sem] using he _ _
 ·refine(callsIn_wide.2 (hcall _ _ r _ ⟨by rw [hr],by rw [hr],by rw [hr],by rw [hr],by rw [hr],⟨by rw [hr];exact ha.size,rfl,by rw [hr];exact ha.get⟩⟩ hs1)).mono ?_
  rintro e w' ⟨⟨v,rfl⟩,s,hdn,hs⟩
  have hl:w'.heap[w.heap.size+1]?=some (.loop r):=hs.own .here
  refine⟨none,w'.putObj (w.heap.size+1) (.loop { r with state:=.exhausted }),?_,k w.heap.size s hdn _ _ (Js.mk (df:=Hv w.heap.size) (Js.size (df:=VQ) (a:=a) ha) ?_ (fun t v h=>Js.get (df:=VQ) (a:=a) ha t v h)) ?_⟩
  ·rw [run_endLoop hl (by rw [hr];intro e;cases e)]
   rw [hr]
  ·show _++a.defers=_
   rw [hd];rfl
  ·exact(hs.put (.loop { r with state:=.exhausted }) .here (fun c fr e=>by cases e)).imp (.cons _ (List.Sublist.refl _)) fun _ h=>h
theorem kc {c:Code} (h:∀ G':Gs→Prop,(∀ F,G' F→G F)→J (df:=VQ) P c Q N m ⟨w0,F0,bs,G'⟩):J (df:=VQ) P c Q N m ⟨w0,F0,bs,G⟩:=h G fun _ h=>h
theorem QT.yC {f:FuncId} {fn:Func} {c:Code} {args:List Value} {w:World} {F:Gs} {γ:Type} {val:γ→Value} {fact:γ→Gs→Prop} {G:Gs→Prop} (hf:P.funcs[f]?=some fn) (hb:fn.body=some c) (hn:(fn.name == "runtime.NumGoroutine")=false) (hN:fn.ntmps=N) (hl:Nat.ble args.length N=true)
  (hw:Fits F w) (hg:∀ F',Gs.le F F'→G F') (h:J (df:=VQ) P c (bodyPostM Fence.wide 0 P fn (Ee w F val fact)) N (N4 0 args) ⟨w,F,[],G⟩):QT P f args w F val fact:=by
 refine⟨enters_of hf hn (by rw [hb];rfl),callsIn_wide.1 (callsIn_of_wp_marks hf hb trivial (wpIn_wide.2 (h _ w ⟨?_,rfl,fun t v ht=>?_⟩ (St.start hw hg))))⟩
 ·have:=Nat.le_of_ble_eq_true hl
  simp [hN];omega
 ·obtain ⟨_,h2⟩:=Wd args 0 t v ht
  have hlt:t<args.length:=by rcases Nat.lt_or_ge t args.length with g | g;exact g;rw [Nat.sub_zero,List.getElem?_eq_none g] at h2;cases h2
  simp only [Nat.sub_zero] at h2
  rw [Array.getElem?_append,if_pos (by simpa using hlt)]
  simpa using h2
theorem qT {fn:Func} {R:Ending→World→Prop} {E:Env} (h:Fin (df:=VQ) (bodyPost P fn R) .ret N m E):Fin (df:=VQ) (bodyPostM Fence.wide 0 P fn R) .ret N m E:=fun a w ha hw=>by
 obtain ⟨h1,v,h2,h3⟩:=h a w ha hw
 show LeavesInM Fence.wide 0 P fn a.tmps R a.defers .returning w
 rw [h1]
 exact⟨v,h2,h3⟩
theorem yt {fn:Func} {R:Ending→World→Prop} {D:Nat} {f:Obj→List (Nat×Obj)} (ho:Own bs D (.deferred (some [])) f) (h:Fin (df:=VQ) (bodyPost P fn R) .ret N m ⟨w0,F0,f (.deferred none),G⟩):Fin (df:=Hv D) (bodyPostM Fence.wide 0 P fn R) .ret N m ⟨w0,F0,bs,G⟩:=fun a w ha hw=>by
 have h1:=h { tmps:=a.tmps,defers:=[] } _ (Js.mk (df:=VQ) (Js.size (df:=Hv D) (a:=a) ha) rfl (fun t v h=>Js.get (df:=Hv D) (a:=a) ha t v h)) (hw.put (.deferred none) ho (fun c fr e=>by cases e))
 obtain ⟨_,v,h2,h3⟩:=h1
 show LeavesInM Fence.wide 0 P fn a.tmps R a.defers .returning w
 rw [show a.defers=[{ target:=.collected D,args:=#[] }] from Js.df (df:=Hv D) ha]
 exact⟨fun e=>(by cases e),.inl ⟨D,_,rfl,run_takeDeferred (hw.own ho),v,h2,h3⟩⟩
end
end
section
open Go.RowKit Ig
abbrev xQ (n:Nat):={ l:List Int // l.length=n }
def VZ {n:Nat} (x:xQ n):Value:=.agg (x.1.map Qz).toArray
theorem xF {a b:List Int} {n:Nat} (ha:a.length=n) (hb:b.length=n):((List.range n).all fun j=>Qf a j==Qf b j)=decide (a=b):=by
 rw [Bool.eq_iff_iff,decide_eq_true_iff,List.all_eq_true]
 constructor
 ·intro h
  apply List.ext_getElem (by omega)
  intro i h1 h2
  have:=h i (List.mem_range.2 (by omega))
  simpa [Qf,h1,h2] using this
 ·intro h j _;rw [h];simp
section
variable {P:Program} {e:TypeId}
theorem NF (he:P.underlying e=some (.int .i64)) (w:World) {xs:List Int} {j:Nat} (h:j<xs.length):(part e (xs.map Qz).toArray j).run P w = .ok (Qz (Qf xs j)) w:=by
 have e1:(xs.map Qz).toArray[j]?=some (Qz (Qf xs j)):=by simp [h,Qf]
 simp [part,isAgg,run_underlying he,e1]
theorem eqItems_ints (he:P.underlying e=some (.int .i64)) (w:World) (d:Nat) {xs ys:List Int}:∀ (is:List Nat),(∀ j∈is,j<xs.length∧j<ys.length) →
  (Op.eqItems (d+1) e 1 (xs.map Qz).toArray (ys.map Qz).toArray is).run P w = .ok (is.all fun j=>Qf xs j==Qf ys j) w
 |[],_=>by simp [Op.eqItems]
 |j::is,h=>by
  have h1:=h j (by simp)
  simp only [Op.eqItems,Sem.run_bind,Nat.mul_one,NF he w h1.1,NF he w h1.2,Result.andThen_ok]
  rw [show Qz (Qf xs j) = .int .i64 (Qf xs j) from rfl,show Qz (Qf ys j) = .int .i64 (Qf ys j) from rfl,run_equalIn_int w d e .i64 .i64 _ _ he]
  simp only [Result.andThen_ok,List.all_cons]
  cases Qf xs j==Qf ys j
  ·simp
  ·simpa using eqItems_ints he w d is fun j hj=>h j (by simp [hj])
theorem equal_arr {kt:TypeId} {n:Nat} (hu:P.underlying kt=some (.array n e)) (he:P.underlying e=some (.int .i64)) (hc:P.cellsOf e=1) (w:World) (a b:xQ n):(Op.equal kt (VZ a) (VZ b)).run P w = .ok (decide (a=b)) w:=by
 obtain ⟨i,hi⟩:=info_of_underlying he
 unfold VZ
 show(Op.equalIn (9999+1) kt _ _).run P w=_
 rw [run_equalIn_array w 9999 _ _ hu hi,hc,eqItems_ints he w 9998 _ (fun j hj=>⟨by rw [a.2];exact List.mem_range.1 hj,by rw [b.2];exact List.mem_range.1 hj⟩),xF a.2 b.2]
 congr 1
 simp [Subtype.ext_iff]
theorem EM {kt:TypeId} {n:Nat} (hu:P.underlying kt=some (.array n e)) (he:P.underlying e=some (.int .i64)) (hc:P.cellsOf e=1) (w:World) (k:xQ n):∀ (l:List (xQ n×Value)) (m i:Nat),
  (Instr.findAsking kt (VZ k) (XQ VZ l m) i).run P w = .ok (Z3 l k i) w
 |[],_,_=>by simp [XQ,Instr.findAsking,Z3]
 |x::l,m,i=>by
  simp only [XQ,Instr.findAsking,Sem.run_bind,equal_arr hu he hc,Result.andThen_ok,Z3]
  by_cases h:k=x.1
  ·simp [h]
  ·simp [h,EM hu he hc w k l]
theorem Lu {kt:TypeId} {n:Nat} (hu:P.underlying kt=some (.array n e)) (he:P.underlying e=some (.int .i64)) (hc:P.cellsOf e=1) (em:Bool) (w:World) (k:xQ n):(Instr.checkKey em 10000 kt (VZ k)).run P w = .ok () w:=by
 obtain ⟨i,hi⟩:=info_of_underlying he
 rw [show 10000=9999+1 from rfl,Instr.checkKey]
 unfold VZ
 simp only [Sem.run_bind,run_underlying hu,Result.andThen_ok]
 simp only [Std.Legacy.Range.forIn_eq_forIn_range',Std.Legacy.Range.size,Nat.sub_zero,Nat.add_one_sub_one,Nat.div_one]
 have hj:∀ j∈List.range' 0 n,j<k.1.length:=fun j hj=>by rw [k.2];simpa using hj
 generalize List.range' 0 n=is at hj
 induction is with
 |nil=>simp
 |cons j is ih =>
  have p2:(Instr.checkKey em 9999 e (Qz (Qf k.1 j))).run P w = .ok () w:=MapKept.run_checkKey he (by simp [MapKept.IsKey,Qz]) em 9998
  simp only [List.forIn_cons,Sem.run_bind,run_sizeOf w hi,Result.andThen_ok,hc,Nat.mul_one,NF he w (hj j (by simp)),p2,Sem.run_pure]
  exact ih fun j hj'=>hj j (by simp [hj'])
theorem Oh {n:Nat} (k:xQ n):Instr.sameBits 10000 (VZ k) (VZ k)=true:=by
 unfold VZ
 rw [show 10000=9999+1 from rfl,Instr.sameBits]
 simp only [beq_self_eq_true,Bool.true_and,List.all_eq_true]
 intro x hx
 obtain ⟨l,hl⟩:=k
 simp only at hx
 have:∀ (l:List Int) (x:Value×Value),x∈(l.map Qz).zip (l.map Qz)→Instr.sameBits 9999 x.1 x.2=true:=by
  intro l
  induction l with
  |nil=>intro x hx;cases hx
  |cons a l ih =>
   intro x hx
   rw [List.map_cons,List.zip_cons_cons] at hx
   rcases List.mem_cons.1 hx with rfl | hx
   ·simp [Qz,Instr.sameBits]
   ·exact ih x hx
 exact this l x hx
theorem Su.arr {kt:TypeId} {n:Nat} (hu:P.underlying kt=some (.array n e)) (he:P.underlying e=some (.int .i64)) (hc:P.cellsOf e=1):Su P kt (VZ (n:=n)) where
 yx:=fun em w k=>Lu hu he hc em w k
 find:=fun w k l=>by
  cases l with
  |nil=>simp [Instr.findKey,run_underlying hu,XQ,Instr.findNow,Z3]
  |cons x l =>
   have:Instr.findNow (.array n e) (VZ k) (XQ VZ (x::l) 0) 0=none:=by simp [XQ,Instr.findNow,Instr.sameNow]
   simp only [Instr.findKey,Sem.run_bind,run_underlying hu,Result.andThen_ok,this]
   exact EM hu he hc w k (x::l) 0 0
 same:=Oh
theorem equal_txs {t:TypeId} {f1 f2:Field} (ht:P.underlying t=some (.struct (P.fieldsOf t))) (hp:P.stoodInHeld t=false) (hf:(P.fieldsOf t).toList=[f1,f2]) (h1:f1.name ≠ "_" ∧ f1.offset=0∧P.underlying f1.type=some .string) (h2:f2.name ≠ "_" ∧ f2.offset=1∧P.underlying f2.type=some .string) (w:World) (a b c d:List UInt8) :
  (Op.equal t (.agg #[tx a,tx b]) (.agg #[tx c,tx d])).run P w = .ok (decide (a=c)&&decide (b=d)) w:=by
 have hs:∀ (f:TypeId),P.underlying f=some .string→∀ x y:List UInt8,(Op.equalIn 9999 f (tx x) (tx y)).run P w = .ok (decide (x=y)) w:=fun f hf x y=>by
  rw [show(9999:Nat)=9998+1 from rfl,show tx x = .string ⟨x.toArray⟩ from rfl,show tx y = .string ⟨y.toArray⟩ from rfl,run_equalIn_string w 9998 f _ _ hf]
  congr 1
  rw [ByteArray.toList_eq,ByteArray.toList_eq,Bool.eq_iff_iff]
  simp
 show(Op.equalIn (9999+1) t _ _).run P w=_
 rw [run_equalIn_struct w 9999 t _ _ ht hp,hf]
 have p1:∀ x y:List UInt8,(part f1.type #[tx x,tx y] 0).run P w = .ok (tx x) w:=fun x y=>by simp [part,isAgg,run_underlying h1.2.2]
 have p2:∀ x y:List UInt8,(part f2.type #[tx x,tx y] 1).run P w = .ok (tx y) w:=fun x y=>by simp [part,isAgg,run_underlying h2.2.2]
 simp only [Op.eqFields,h1.1,h2.1,h1.2.1,h2.2.1,ne_eq,not_false_eq_true,if_true,Sem.run_bind,p1,p2,hs f1.type h1.2.2,hs f2.type h2.2.2,Result.andThen_ok]
 by_cases e1:a=c<;>by_cases e2:b=d<;>simp [e1,e2,p2,hs f2.type h2.2.2]
end
end
section
open Go.RowKit Ig
def kT (P:Program) (T:TypeId):Option (Nat×TypeId):=match P.underlying T with | some (.array n e)=>some (n,e) | _=>none
theorem xz {P:Program} {T e:TypeId} {n:Nat} (h:kT P T=some (n,e)):P.underlying T=some (.array n e):=by
 unfold kT at h
 split at h
 ·rename_i hu;cases h;exact hu
 ·cases h
section
variable [Dr] [df:Df] {P:Program} {N:Nat} {m:Sl} {S:World→Prop} {ty:TypeId}
theorem O9 {T e:TypeId} {x y:Operand} {b off n sz i:Nat} {g:Bool} (hx:ev m x=some (.pointer (some ⟨b,off,none⟩))) (hy:ev m y=some (.int .i64 (i:Int))) (hT:kT P T=some (n,e)) (hs:YJ P e=some (g,sz)) (hi:i<n):Qt P N m S (.indexAddr T x y) ty (.pointer (some ⟨b,off+i*sz,none⟩)):=fun a w _ _ _ _ ha _=>by
 simp [execOp,ha.ev hx,ha.ev hy,Instr.indexAt,asIntOf,Instr.sureAddr,run_underlying (xz hT),YK hs,hi,Vb]
theorem Ag {T e:TypeId} {x y:Operand} {b n sz h:Nat} {g:Bool} (hx:ev m x=some (.pointer (some ⟨b,0,none⟩))) (hy:ev m y=some (.int .i64 (h:Int))) (hT:kT P T=some (n,e)) (hs:YJ P e=some (g,sz)) (hh:h≤n):Qt P N m S (.slice T x none (some y) none) ty (.slice (some ⟨b,0,none⟩) h n):=fun a w _ _ _ _ ha _=>by
 simp [execOp,ha.ev hx,ha.ev hy,Instr.sliceAt,asIntOf,Instr.sureAddr,Instr.sliceBounds,Instr.sliceBound,run_underlying (xz hT),YK hs,hh,Vb]
end
theorem qH:kT Tryz.prog 160=some (25,3):=by kernel_rfl
def YH (l:List Int):xQ 25:=⟨(List.range 25).map (Qf l),by simp⟩
def Hc (a b:List Int) (i:Nat):List Int:=(List.range 25).map fun j=>if j<i then Qf a j+Qf b j else 0
theorem LV {a b:List Int} {i:Nat} (h:i<25):(Hc a b i).set i (Qf a i+Qf b i)=Hc a b (i+1):=by
 unfold Hc
 apply List.ext_getElem (by simp)
 intro j h1 h2
 simp only [List.length_set,List.length_map,List.length_range] at h1
 rw [List.getElem_set]
 simp only [List.getElem_map,List.getElem_range]
 split
 ·rename_i e;subst e;simp
 ·rename_i e
  by_cases g:j<i
  ·simp [g,show j<i+1 by omega]
  ·simp [g,show ¬ j<i+1 by omega]
theorem LW {a b:List Int} {n:Nat} (ha:a.length=n) (hb:b.length=n):Hc a b n=(YH (Xq a b)).1:=by
 unfold Hc YH
 apply List.map_congr_left
 intro j hj
 split
 ·rename_i g
  simp [Qf,Xq,ha,hb,g]
 ·rename_i g
  simp [Qf,Xq,ha,hb,g]
theorem qx {a b:List Int} {i:Nat} (h:i<25):VD ((Hc a b i).map Qz) (0+i*1) [.int .i64 (Qf a i+Qf b i)] ((Hc a b (i+1)).map Qz):=by
 have h1:=VD.kC (l:=(Hc a b i).map Qz) (n:=0+i*1) (.int .i64 (Qf a i+Qf b i)) (by simp [Hc];omega)
 rw [← LV h,List.map_set]
 simpa [Qz] using h1
structure dH {ι:Type} (pos:ι→Nat) (n m:Nat) where
 i:Nat
 s:ι
 le:i≤n
 hp:pos s=i*m
structure dG {ι:Type} (pos:ι→Nat) (n m i:Nat) where
 j:Nat
 s:ι
 le:j≤m
 hp:pos s=i*m+j
structure dF (n:Nat) where
 k:Nat
 le:k≤n
theorem Tf {ι:Type} {w0:World} {F0:Gs} {B:ι→List (Nat×Obj)} {H:ι→Gs→Prop} {pos:ι→Nat} {p q:W1} {b1 b2 L n:Nat}
  (hH:∀ s F,H s F→F b1=some (#[p.1.v],157)∧F b2=some (#[q.1.v],157)∧Jm F p.1 p.2 (JL p.2)∧Jm F q.1 q.2 (JL q.2)) (hPn:p.2.length=p.1.n∧q.2.length=q.1.n)
  (hw:(∀ t∈p.2,t.t.2.length=n∧t.r.n=n∧PW t.t.2)∧∀ t∈q.2,t.t.2.length=n∧t.r.n=n∧PW t.t.2) (hn:n≤25) (hl:p.2.length≤1000000∧q.2.length≤1000000) (hz:(∀ t∈p.2,JX t.t.1≤20000000)∧∀ t∈q.2,JX t.t.1≤20000000)
  (hround:∀ (G:Gs→Prop) (C:List (Nat×Obj)) (s:ι) (i j:Nat) (x:Fr) (W:World),i<p.2.length→j<q.2.length→pos s=i*q.2.length+j →
   St ⟨w0,F0,B s++C,fun F=>(G F∧H s F)∧JV F x ((el p.2 i).t.1*(el q.2 j).t.1)⟩ W→YieldAt Fence.wide 0 Tryz.prog L #[VZ (YH (Xq (el p.2 i).t.2 (el q.2 j).t.2)),x.v] W fun e W'=>e = .returned (.bool true)∧∃ s',pos s'=pos s+1∧St ⟨w0,F0,B s'++C,fun F=>G F∧H s' F⟩ W')
  (s0:ι) (h0:pos s0=0) :
  XA Tryz.prog 209 [.func (.yield L) #[] #[],.pointer (some ⟨b1,0,none⟩),.pointer (some ⟨b2,0,none⟩)] ⟨w0,F0,B s0,H s0⟩ (fun(_:{ s:ι // pos s=p.2.length*q.2.length })=>.tuple #[]) (fun s=>⟨w0,F0,B s.1,H s.1⟩):=by
 have hpn:p.2.length=p.1.n:=hPn.1
 have hqn:q.2.length=q.1.n:=hPn.2
 refine XA.intro Tryz.func209 rfl (by rfl) rfl rfl<|QG<|QB<|QA (NB (c:=#[p.1.v]) (T':=157) rfl WM (fun F hs0=>(hH _ _ hs0).1) rfl)<|QA (Ql rfl J1)<|QA (QC rfl)<|QF<|QD<|Qa<|Jz (ι:=dH pos p.2.length q.2.length) [(0,_),(2,_),(10,_),(11,_)] (fun i=>[(12,.int .i64 ((i.i:Nat):Int))]) (fun i=>B i.s) (fun i F=>H i.s F) (fun i=>p.2.length - i.i) (⟨0,s0,Nat.zero_le _,by rw [h0,Nat.zero_mul]⟩) ⟨rfl,rfl,rfl,rfl,trivial⟩ ⟨rfl,trivial⟩ (List.Sublist.refl _) (fun _ h=>h) (fun i=>?_)
 simp only [List.cons_append,List.nil_append]
 have hi:=i.le
 refine QG<|QB<|QA (QU rfl rfl rfl)<|QF<|QD<|QG ?_
 refine QO rfl (fun hc=>?_) (fun hc=>?_)
 ·
  have hlt:i.i<p.2.length:=by have:=of_decide_eq_true hc;omega
  have hta:=Je hlt
  obtain ⟨hna,hra,hpa⟩:=hw.1 _ hta
  have hza:=hz.1 _ hta
  refine QN<|QD<|QG<|Qa<|QG<|QB<|QA (Jc (n:=p.1.n) (i.i) (fun F ⟨hs0,hs1⟩=>(hH _ _ hs0).2.2.1.1) rfl rfl J1 Jf (by omega))<|QA (ZB (n:=p.1.n) (vs:=[.int .i64 (el p.2 (i.i)).x.n.s,.slice (el p.2 (i.i)).x.n.q (el p.2 (i.i)).x.n.n (el p.2 (i.i)).x.n.cap,.int .i64 (el p.2 (i.i)).x.d.s,.slice (el p.2 (i.i)).x.d.q (el p.2 (i.i)).x.d.n (el p.2 (i.i)).x.d.cap,.slice (el p.2 (i.i)).r.q (el p.2 (i.i)).r.n (el p.2 (i.i)).r.cap]) ((i.i)*5) (fun F ⟨hs0,hs1⟩=>(hH _ _ hs0).2.2.1.1) (by omega) rfl Jf rfl (fun j v hv=>XU (f:=Yl) (l:=p.2) YS (by omega) hv))<|QZ Ze (fun b5=>QP (vs:=[_,_,_,_,_]) rfl rfl rfl Jf rfl .here (.here (.here (.here (.here (.here .nil))))) ⟨rfl,rfl,rfl,rfl,rfl,trivial⟩<|QF<|QD<|QG<|QB<|QA (NB (c:=#[q.1.v]) (T':=157) rfl WM (fun F ⟨hs0,hs1⟩=>(hH _ _ hs0).2.1) rfl)<|QA (Ql rfl J1)<|QA (QC rfl)<|QF<|QD<|Qa<|Jz (ι:=dG pos p.2.length q.2.length i.i) [(0,_),(2,_),(5,_),(10,_),(11,_),(12,_),(16,_),(17,_)] (fun i2=>[(18,.int .i64 ((i2.j:Nat):Int))]) (fun i2=>(b5,.cells (Yl (el p.2 i.i)).toArray 165 (0,0))::B i2.s) (fun i2 F=>H i2.s F) (fun i2=>q.2.length - i2.j) (⟨0,i.s,Nat.zero_le _,by rw [i.hp,Nat.add_zero]⟩) ⟨rfl,rfl,rfl,rfl,rfl,rfl,rfl,rfl,trivial⟩ ⟨rfl,trivial⟩ (List.Sublist.refl _) (fun _ h=>h.2) (fun i2=>?_))
  simp only [List.cons_append,List.nil_append]
  have hj:=i2.le
  refine QG<|QB<|QA (QU rfl rfl rfl)<|QF<|QD<|QG ?_
  refine QO rfl (fun hc=>?_) (fun hc=>?_)
  ·
   have hlt2:i2.j<q.2.length:=by have:=of_decide_eq_true hc;omega
   have htb:=Je hlt2
   obtain ⟨hnb,hrb,hpb⟩:=hw.2 _ htb
   have hzb:=hz.2 _ htb
   refine QN<|QD<|QG<|Qa<|QG<|QB<|QA (Jc (n:=q.1.n) (i2.j) (fun F ⟨⟨hs0,hs1⟩,hs2⟩=>(hH _ _ hs0).2.2.2.1) rfl rfl J1 Jf (by omega))<|QA (ZB (n:=q.1.n) (vs:=[.int .i64 (el q.2 (i2.j)).x.n.s,.slice (el q.2 (i2.j)).x.n.q (el q.2 (i2.j)).x.n.n (el q.2 (i2.j)).x.n.cap,.int .i64 (el q.2 (i2.j)).x.d.s,.slice (el q.2 (i2.j)).x.d.q (el q.2 (i2.j)).x.d.n (el q.2 (i2.j)).x.d.cap,.slice (el q.2 (i2.j)).r.q (el q.2 (i2.j)).r.n (el q.2 (i2.j)).r.cap]) ((i2.j)*5) (fun F ⟨⟨hs0,hs1⟩,hs2⟩=>(hH _ _ hs0).2.2.2.1) (by omega) rfl Jf rfl (fun j v hv=>XU (f:=Yl) (l:=q.2) YS (by omega) hv))<|QZ Ze (fun b7=>QP (vs:=[_,_,_,_,_]) rfl rfl rfl Jf rfl .here (.here (.here (.here (.here (.here .nil))))) ⟨rfl,rfl,rfl,rfl,rfl,trivial⟩<|QF<|QD<|QG<|QB<|QZ Fk (fun b8=>QF<|QD<|QG<|QG<|QB<|QA (QI rfl ZE Qs)<|QA (Qn rfl Qs (.there (.there .here)) (.skip (.skip (.skip (.skip (.here .nil))))))<|QA (Ql rfl Qe)<|QA (QC rfl)<|QF ?_))
   refine QD<|Qa<|Jz (ι:=dF n) [(0,_),(2,_),(5,_),(7,_),(8,_),(10,_),(11,_),(12,_),(16,_),(17,_),(18,_),(24,_)] (fun i3=>[(25,.int .i64 ((i3.k:Nat):Int))]) (fun i3=>(b8,.cells ((Hc (el p.2 i.i).t.2 (el q.2 i2.j).t.2 i3.k).map Qz).toArray 160 (0,0))::(b7,.cells (Yl (el q.2 i2.j)).toArray 165 (0,0))::(b5,.cells (Yl (el p.2 i.i)).toArray 165 (0,0))::B i2.s) (fun i3 F=>True) (fun i3=>n - i3.k) (⟨0,Nat.zero_le _⟩) ⟨rfl,rfl,rfl,rfl,rfl,rfl,rfl,rfl,rfl,rfl,rfl,rfl,trivial⟩ ⟨rfl,trivial⟩ (List.Sublist.refl _) (fun _ _=>trivial) (fun i3=>?_)
   simp only [List.cons_append,List.nil_append]
   have hk:=i3.le
   refine QG<|QB<|QA (QU rfl rfl rfl)<|QF<|QD<|QG ?_
   refine QO rfl (fun hc=>?_) (fun hc=>?_)
   ·
    have hlt3:i3.k<n:=by have:=of_decide_eq_true hc;omega
    have hka:=hpa.el (show i3.k<(el p.2 i.i).t.2.length by omega)
    have hkb:=hpb.el (show i3.k<(el q.2 i2.j).t.2.length by omega)
    refine QN<|QD<|QG<|Qa<|QG<|QB<|QA (QC rfl)<|QA (QE rfl)<|QF<|QD<|Xr 13 (List.Sublist.refl _) mixed (by kernel_rfl) (by kernel_rfl) ?_
    simp only [List.take_succ_cons,List.take_zero,List.drop_succ_cons,List.drop_zero]
    refine QM (QC rfl)<|QM (QI rfl ZE Qs)<|QM (Qn rfl Qs (.there (.there .here)) (.skip (.skip (.skip (.skip (.here .nil))))))<|QM (QC rfl)<|QM (Jc (n:=(el p.2 i.i).r.n) (i3.k) (fun F ⟨⟨⟨hs0,hs1⟩,hs2⟩,_⟩=>(((hH _ _ hs0).2.2.1.2.1 _ hta).2).1) rfl rfl Qe Qu (by omega))<|QM (Ji (n:=(el p.2 i.i).r.n) ((i3.k)*1) (fun F ⟨⟨⟨hs0,hs1⟩,hs2⟩,_⟩=>(((hH _ _ hs0).2.2.1.2.1 _ hta).2).1) (by omega) rfl Qu (JR (o:=(el p.2 i.i).t.2) (by omega)))<|QM (QI rfl ZE Qs)<|QM (Qn rfl Qs (.there .here) (.skip (.skip (.skip (.skip (.here .nil))))))<|QM (QC rfl)<|QM (Jc (n:=(el q.2 i2.j).r.n) (i3.k) (fun F ⟨⟨⟨hs0,hs1⟩,hs2⟩,_⟩=>(((hH _ _ hs0).2.2.2.2.1 _ htb).2).1) rfl rfl Qe Qu (by omega))<|QM (Ji (n:=(el q.2 i2.j).r.n) ((i3.k)*1) (fun F ⟨⟨⟨hs0,hs1⟩,hs2⟩,_⟩=>(((hH _ _ hs0).2.2.2.2.1 _ htb).2).1) (by omega) rfl Qu (JR (o:=(el q.2 i2.j).t.2) (by omega)))<|QM (Qw rfl rfl (by omega))<|QM (O9 (i:=i3.k) rfl rfl qH Qu (by omega))<|K9<|QP (vs:=[_]) rfl rfl rfl Qu rfl .here (qx (by omega)) ⟨rfl,trivial⟩<|QF<|Qm<|QD<|QB<|QA (Qw rfl rfl (by omega))<|QA (QC rfl)<|QF ?_
    exact Qo (⟨i3.k+1,hlt3⟩) (by show n - (i3.k+1)<n - i3.k;omega) ⟨rfl,rfl,rfl,rfl,rfl,rfl,rfl,rfl,rfl,rfl,rfl,rfl,rfl,trivial⟩ (List.Sublist.refl _) (fun F h=>⟨h.1,trivial⟩)
   ·
    have hge3:i3.k=n:=by have:=of_decide_eq_false hc;omega
    refine Q6 ?_
    repeat (first | refine Qc ?_ | refine QX (by rfl) ?_)
    refine Qd<|QD<|QG ?_
    rw [hge3,LW hna hnb]
    refine Sv 7 (List.Sublist.refl _) mixed (by kernel_rfl) (by kernel_rfl) rfl ?_
    simp only [List.take_succ_cons,List.take_zero,List.drop_succ_cons,List.drop_zero]
    refine QM (QC rfl)<|QM (QL (vs:=(YH (Xq (el p.2 i.i).t.2 (el q.2 i2.j).t.2)).1.map Qz) rfl W5 .here (PD.all _) (by simp [YH]))<|QM (QI rfl YC Qg)<|QM (QL (vs:=[_,_,_,_]) rfl Qg (.there (.there .here)) (.here (.here (.here (.here .nil)))) rfl)<|QM (QI rfl YC Qg)<|QM (QL (vs:=[_,_,_,_]) rfl Qg (.there .here) (.here (.here (.here (.here .nil)))) rfl)<|Qb rfl (fun w F hF ⟨⟨⟨hs0,hs1⟩,hs2⟩,_⟩=>KC hF ((hH _ _ hs0).2.2.1.2.1 _ hta).1 ((hH _ _ hs0).2.2.2.2.1 _ htb).1 (by omega) (by omega)) (fun x48=>qS ?_)
    refine OB (E':=fun s':{ s:ι // pos s=pos i2.s+1 }=>⟨w0,F0,(b8,.cells ((YH (Xq (el p.2 i.i).t.2 (el q.2 i2.j).t.2)).1.map Qz).toArray 160 (0,0))::(b7,.cells (Yl (el q.2 i2.j)).toArray 165 (0,0))::(b5,.cells (Yl (el p.2 i.i)).toArray 165 (0,0))::B s'.1,fun F=>(H s0 F∧H i.s F)∧H s'.1 F⟩) rfl rfl (fun W hW=>?_) (fun s49=>?_)
    ·obtain ⟨fn,tmps,assign,body,e1,e2⟩:=hround (fun F=>H s0 F∧H i.s F) [(b8,.cells ((YH (Xq (el p.2 i.i).t.2 (el q.2 i2.j).t.2)).1.map Qz).toArray 160 (0,0)),(b7,.cells (Yl (el q.2 i2.j)).toArray 165 (0,0)),(b5,.cells (Yl (el p.2 i.i)).toArray 165 (0,0))] i2.s i.i i2.j x48 W hlt hlt2 i2.hp ((hW.perm (List.perm_append_comm (l₁:=[_,_,_]))).Bn fun F h=>⟨h.1.1,h.2⟩)
     exact⟨fn,tmps,assign,body,e1,e2.mono fun e w' ⟨h2,s',h3,h4⟩=>⟨h2,⟨s',h3⟩,h4.perm (List.perm_append_comm (l₂:=[_,_,_]))⟩⟩
    refine yp (fun⟨a,w,h⟩=>by obtain ⟨c,e,_⟩:=h;cases e) rfl<|QA (ZO rfl)<|QF<|QD ?_
    refine QO rfl (fun hc=>?_) (fun hc=>?_)
    ·exact absurd hc (by decide)
    ·
     refine QN<|Qm<|QD<|QB<|QA (Qw rfl rfl (by omega))<|QA (QC rfl)<|QF ?_
     exact Qo (⟨i2.j+1,s49.1,hlt2,by rw [s49.2,i2.hp];omega⟩) (by show q.2.length - (i2.j+1)<q.2.length - i2.j;omega) ⟨rfl,rfl,rfl,rfl,rfl,rfl,rfl,rfl,rfl,trivial⟩ (.cons _ (.cons _ (List.Sublist.refl _))) (fun F h=>h)
  ·
   have hge2:i2.j=q.2.length:=by have:=of_decide_eq_false hc;omega
   refine Q6 ?_
   repeat (first | refine Qc ?_ | refine QX (by rfl) ?_)
   refine Qd<|Qm<|QD<|QB<|QA (Qw rfl rfl (by omega))<|QA (QC rfl)<|QF ?_
   exact Qo (⟨i.i+1,i2.s,hlt,by rw [i2.hp,hge2,Nat.add_mul,Nat.one_mul]⟩) (by show p.2.length - (i.i+1)<p.2.length - i.i;omega) ⟨rfl,rfl,rfl,rfl,rfl,trivial⟩ (.cons _ (List.Sublist.refl _)) (fun F h=>⟨h.1.1,h.2⟩)
 ·
  have hge:i.i=p.2.length:=by have:=of_decide_eq_false hc;omega
  refine Q6 ?_
  repeat (first | refine Qc ?_ | refine QX (by rfl) ?_)
  refine Qd<|D5 ?_
  exact Yz (γ:={ s:ι // pos s=p.2.length*q.2.length }) ⟨i.s,by rw [i.hp,hge]⟩ rfl .nil rfl (fun w h=>h.imp (List.Sublist.refl _) (fun F h=>h.2))
end
section
open Go.RowKit Ig
structure GS where
 x:Fr
 t:Tm
instance :Inhabited GS:=⟨⟨default,(0,[])⟩⟩
def RG (ms:List GS):List (xQ 25×Value):=ms.map fun e=>(YH e.t.2,e.x.v)
def Y7 (ms:List GS):List Tm:=ms.map (·.t)
def Dx:List GS→GS→List GS
 |[],n=>[n]
 |t::l,n=>if n.t.2=t.t.2 then n::l else t::Dx l n
theorem Tp {a b:List Int} {n:Nat} (hn:n≤25) (ha:a.length=n) (hb:b.length=n) (h:YH a=YH b):a=b:=by
 have h1:(List.range 25).map (Qf a)=(List.range 25).map (Qf b):=congrArg Subtype.val h
 apply List.ext_getElem (by omega)
 intro i h2 h3
 have h4:=congrArg (fun l=>l[i]?) h1
 simp only [List.getElem?_map,List.getElem?_range (show i<25 by omega),Option.map_some,Option.some.injEq] at h4
 simpa [Qf,h2,h3] using h4
theorem Pk:∀ (ms:List GS) (n:GS),Y7 (Dx ms n)=H8 (Y7 ms) n.t
 |[],n=>rfl
 |t::l,n=>by
  have ih:=Pk l n
  unfold Y7 at ih ⊢
  simp only [Dx,List.map_cons,H8]
  split
  ·simp
  ·simp [ih]
theorem Bj {ts:List GS} {n x:GS} (h:x∈Dx ts n):x=n∨x∈ts:=by
 induction ts with
 |nil=>simp [Dx] at h;exact .inl h
 |cons t l ih =>
  simp only [Dx] at h
  split at h
  ·rcases List.mem_cons.1 h with h | h
   ·exact .inl h
   ·exact .inr (List.mem_cons_of_mem _ h)
  ·rcases List.mem_cons.1 h with h | h
   ·exact .inr (h ▸ List.mem_cons_self)
   ·rcases ih h with h | h
    ·exact .inl h
    ·exact .inr (List.mem_cons_of_mem _ h)
def v8 (n:Nat) (ms:List GS):Prop:=∀ e∈ms,e.t.2.length=n
theorem NY {w:Nat} (hw:w≤25):∀ (ms:List GS) (n:GS),v8 w ms→n.t.2.length=w→RG (Dx ms n)=Ba (RG ms) (YH n.t.2) n.x.v
 |[],n,_,_=>rfl
 |t::l,n,h,hn=>by
  have ih:=NY hw l n (fun e he=>h e (List.mem_cons_of_mem _ he)) hn
  unfold RG at ih ⊢
  simp only [Dx,List.map_cons,Ba]
  by_cases g:n.t.2=t.t.2
  ·rw [if_pos g,if_pos (congrArg YH g)];simp
  ·rw [if_neg g,if_neg fun e=>g (Tp hw hn (h t List.mem_cons_self) e)];simp [ih]
theorem xy {w:Nat} (hw:w≤25):∀ (ms:List GS) (p:List Int) (i:Nat),v8 w ms→p.length=w→(Z3 (RG ms) (YH p) i=none∧p∉(Y7 ms).map (·.2))∨∃ j,∃ t∈ms,t.t.2=p∧Z3 (RG ms) (YH p) i=some (j,t.x.v)
 |[],_,_,_,_=>.inl ⟨rfl,by simp [Y7]⟩
 |t::l,p,i,h,hp=>by
  by_cases g:p=t.t.2
  ·exact .inr ⟨i,t,List.mem_cons_self,g.symm,by show(if _ then _ else _)=_;rw [if_pos (congrArg YH g)]⟩
  ·have g2:¬ YH p=YH t.t.2:=fun e=>g (Tp hw hp (h t List.mem_cons_self) e)
   rcases xy hw l p (i+1) (fun e he=>h e (List.mem_cons_of_mem _ he)) hp with ⟨h1,h2⟩ | ⟨j,u,hu,h1,h2⟩
   ·refine .inl ⟨?_,?_⟩
    ·show(if _ then _ else _)=_
     rw [if_neg g2];exact h1
    ·simp only [Y7,List.map_cons,List.mem_cons,not_or];exact⟨g,h2⟩
   ·refine .inr ⟨j,u,List.mem_cons_of_mem _ hu,h1,?_⟩
    show(if _ then _ else _)=_
    rw [if_neg g2];exact h2
def kb (F:Gs) (ms:List GS):Prop:=∀ e∈ms,JV F e.x e.t.1
theorem kb.le {F F':Gs} {ms:List GS} (h:kb F ms) (k:Gs.le F F'):kb F' ms:=fun e he=>(h e he).le k
structure Ex (n:Nat) (ms:List GS) (l:List Tm):Prop where
 AG:L6 (Y7 ms) l
 wd:v8 n ms
 pw:∀ e∈ms,PW e.t.2
 ln:ms.length≤l.length
theorem Ex.nil {n:Nat}:Ex n [] []:=⟨L6.nil,(fun _ h=>by cases h),(fun _ h=>by cases h),Nat.le_refl _⟩
theorem qM (ms:List GS) (n:GS):(Dx ms n).length≤ms.length+1:=by
 induction ms with
 |nil=>exact Nat.le_refl _
 |cons t l ih =>
  simp only [Dx]
  split<;>simp only [List.length_cons]<;>omega
theorem Ex.add {w:Nat} {ms:List GS} {l:List Tm} (h:Ex w ms l) {f:Rat} {p:List Int} (hp:PW p) (hw:p.length=w) {n:GS} (hn:n.t=(f+Jl (Y7 ms) p,p)):Ex w (Dx ms n) (l++[(f,p)]) :=
 ⟨by rw [Pk,hn];exact h.AG.add f p,fun t ht=>by
  rcases Bj ht with rfl | ht
  ·rw [hn];exact hw
  ·exact h.wd t ht,fun t ht=>by
  rcases Bj ht with rfl | ht
  ·rw [hn];exact hp
  ·exact h.pw t ht,by have:=qM ms n;have:=h.ln;rw [List.length_append];simp only [List.length_singleton];omega⟩
theorem Ex.sz {w:Nat} {ms:List GS} {l:List Tm} (h:Ex w ms l) {t:GS} (ht:t∈ms):JX t.t.1≤Zj l+1:=by
 rw [← h.AG.DC (List.mem_map_of_mem (f:=GS.t) ht),h.AG.eq];exact BI _ _
structure kY (n:Nat) (l:List Tm) where
 k:Nat
 ms:List GS
 hI:Ex n ms (l.take k)
theorem CF {p q:List XY} {i j:Nat} (hi:i<p.length) (hj:j<q.length):(Jh (JL p) (JL q))[i*q.length+j]?=some ((el p i).t.1*(el q j).t.1,Xq (el p i).t.2 (el q j).t.2):=by
 induction p generalizing i with
 |nil=>simp at hi
 |cons a p ih =>
  rw [show JL (a::p)=a.t::JL p from rfl,WY]
  have hl:(XZ a.t (JL q)).length=q.length:=by simp [XZ,JL]
  cases i with
  |zero =>
   rw [Nat.zero_mul,Nat.zero_add,List.getElem?_append_left (by omega)]
   simp [XZ,JL,Zi hj,hj,el]
  |succ i =>
   rw [List.getElem?_append_right (by rw [hl,Nat.add_mul];omega),hl,show(i+1)*q.length+j - q.length=i*q.length+j by rw [Nat.add_mul];omega]
   have:=ih (i:=i) (by simpa using hi)
   rw [this];simp [el]
theorem qf {l:List Tm} {k:Nat} {t:Tm} (h:l[k]?=some t):l.take (k+1)=l.take k++[t]:=by
 obtain ⟨h1,rfl⟩:=List.getElem?_eq_some_iff.1 h
 rw [List.take_succ_eq_append_getElem h1]
theorem zH {l:List Tm} {k:Nat}:Zj (l.take k)≤Zj l:=qg (List.take_append_drop k l)
theorem NO:T4 Tryz.prog 152 160 130=true:=by kernel_rfl
theorem SJ:Su Tryz.prog 160 (VZ (n:=25)):=.arr (e:=3) (by kernel_rfl) (by kernel_rfl) (by kernel_rfl)
theorem qX:y3 Tryz.prog 130=some (.agg #[.int .i64 0,.slice none 0 0,.int .i64 0,.slice none 0 0]):=by kernel_rfl
end
section
open Go.RowKit Ig
theorem DU:YJ Tryz.prog 152=some (false,1):=by kernel_rfl
theorem y5:XM Tryz.prog 152=some [.map none]:=by kernel_rfl
theorem Ak {w:World} {F:Gs} {p q:Sr} (hF:Fits F w):QT Tryz.prog 129 [p.v,q.v] w F (fun(c:Nat×Nat)=>.func (.func 209) #[] #[.pointer (some ⟨c.1,0,none⟩),.pointer (some ⟨c.2,0,none⟩)]) (fun c F=>F c.1=some (#[p.v],157)∧F c.2=some (#[q.v],157)):=by
 dsimp only [Sr.v]
 refine QT.intro (G:=fun F=>True) Tryz.func129 rfl (by rfl) rfl rfl hF (fun F' hF'=>trivial)<|QG<|QB<|Q5 rfl (vs:=[_]) rfl (fun b2=>Q5 rfl (vs:=[_]) rfl (fun b3=>QA (QE rfl)<|QF<|QD<|QG<|QB<|D0 (b:=b2) (.there .here)<|D0 (b:=b3) .here<|QA (NA rfl)<|QA (QE rfl)<|QF<|QD<|QS ?_))
 exact QQ ((b2,b3)) rfl (.tmp rfl .nil) (rfl) (fun F h=>⟨h.1.2,h.2⟩)
section
variable [Dr]
theorem jW {w:World} {F:Gs} {a b:XY} (hF:Fits F w) (hA:S2 F a) (hB:S2 F b) (pa:PW a.t.2) (pb:PW b.t.2):QW Tryz.prog 135 [Ap a,Ap b] w F (.int .i64 (VX a.t.2 b.t.2)):=by
 refine QT.intro (G:=fun F=>S2 F a∧S2 F b) Tryz.func135 rfl (by rfl) rfl rfl hF (fun F' hF'=>⟨hA.le hF',hB.le hF'⟩)<|QG<|QB<|Q5 rfl (vs:=[_,_,_,_,_]) rfl (fun b2=>Q5 rfl (vs:=[_,_,_,_,_]) rfl (fun b3=>QA (QE rfl)<|QF<|QD<|QG<|QB<|QA (QI rfl ZE Qs)<|QA (Qn rfl Qs (.there .here) (.skip (.skip (.skip (.skip (.here .nil))))))<|QA (QI rfl ZE Qs)<|QA (Qn rfl Qs .here (.skip (.skip (.skip (.skip (.here .nil))))))<|QH rfl (fun w F hF ⟨hA,hB⟩=>Hs hF (ra:=a.r) (rb:=b.r) hA.2 (hB.2) (pa) (pb)) (fun _=>QA (QE rfl)<|QF<|QD<|QS ?_)))
 exact QQ (()) rfl (.tmp rfl .nil) (rfl) (fun F ⟨⟨hA,hB⟩,_⟩=>trivial)
end
theorem qD:Fj 135:=⟨enters_of Tryz.func135 (by rfl) rfl,fun w F a b hF hA hB pa pb=>@jW ⟨True⟩ w F a b hF hA hB pa pb⟩
end
section
open Go.RowKit Ig
theorem Rx {l vs:List Value} (h:l.length=vs.length):VD l 0 vs vs:=by
 have h1:=VD.mk' 0 l vs (by omega)
 rwa [List.take_zero,List.nil_append,Nat.zero_add,List.drop_of_length_le (by omega),List.append_nil] at h1
theorem KK (l:List Int):((YH l).1.map Qz).length=25:=by simp [YH]
theorem R5 (l:List Int):Ht ((YH l).1.map Qz):=by
 have key:∀ (x:List Int),Ht (x.map Qz):=by
  intro x
  induction x with
  |nil=>trivial
  |cons a x ih=>exact⟨rfl,ih⟩
 exact key _
theorem Oo {F:Gs} {b n:Nat} {l:List Int} (h:F b=some (((YH l).1.map Qz).toArray,160)) (hl:l.length=n) (hn:n≤25):JP F ⟨some ⟨b,0,none⟩,n,25⟩ l:=by
 refine⟨⟨by simp [hl],fun _=>⟨b,0,_,_,rfl,h,fun j u hu=>?_⟩⟩,hl,hn⟩
 rw [Nat.zero_add]
 have hj:j<l.length:=by
  rcases Nat.lt_or_ge j l.length with g | g
  ·exact g
  ·rw [List.getElem?_eq_none (by simpa using g)] at hu;cases hu
 have h25:j<25:=by omega
 rw [List.getElem?_map,List.getElem?_eq_getElem hj] at hu
 simp only [Option.map_some,Option.some.injEq] at hu
 rw [← hu]
 simp [YH,h25,Qf,hj]
section
variable [Dr] [df:Df] {P:Program} {Q:Exit→Act→World→Prop} {N:Nat} {m:Sl} {ops:Array Oper} {l:List Oper} {E E':Env}
theorem xM (h:∀ w,St E w→St E' w) (k:JS P ops Q l N m E'):JS P ops Q l N m E:=fun a w ha hw=>k a w ha (h w hw)
theorem AD {w0:World} {F0:Gs} {bs bs':List (Nat×Obj)} {G:Gs→Prop} {E0:Env} (hp:bs.Perm bs') (k:JD P ops Q E0 l N m ⟨w0,F0,bs',G⟩):JD P ops Q E0 l N m ⟨w0,F0,bs,G⟩:=fun hE a w ha hw=>k (fun w h=>hE w (h.perm hp.symm)) a w ha (hw.perm hp)
end
theorem M5 {N:Nat} {m:Sl} {ps:Array Tmp} {assign body:Code} {r:Loop} (h:qR N m ps assign body r):{ ({ r with state:=.busy }:Loop) with state:=.ready,pending:=none }=r:=by
 obtain ⟨h1,h2,_,_,_,_⟩:=h
 cases r;simp only at h1 h2;subst h1;subst h2;rfl
theorem EE {N:Nat} {m:Sl} {p1 p2:Tmp} {assign body:Code} {r:Loop} (h:qR N m #[p1,p2] assign body r) (v1 v2:Value) (h1:p1<N) (h2:p2<N):Js (df:=VQ) N ((p2,v2)::(p1,v1)::m) (Rs r #[v1,v2]):=by
 have e:Rs r #[v1,v2]=((({ tmps:=r.tmps,defers:=[] }:Act).put (some p1) v1).put (some p2) v2):=by
  unfold Rs;rw [h.params];simp [Act.put]
 rw [e]
 exact(h.kB.put (d:=some p1) (by simpa [J4] using h1) v1).put (d:=some p2) (by simpa [J4] using h2) v2
def jO (l:List Tm):List Tm:=l.filter fun t=>decide (t.1≠0)
structure yz (ms:List GS) where
 seen:List Nat
 os:List XY
 v:Value
 n:Nat
 ob:List (Nat×Obj)
 hr:Q4 165 5 v n (os.flatMap Yl) ob
 nd:seen.Nodup
 lt:∀ j∈seen,j<ms.length
 hn:os.length=n
 ho:JL os=jO (Y7 (seen.map (el ms)))
theorem WX (p q:List Tm):(Jh p q).length=p.length*q.length:=by
 unfold Jh
 induction p with
 |nil=>simp
 |cons a p ih=>rw [List.flatMap_cons,List.length_append,ih,List.length_cons,Nat.add_mul];simp [XZ];omega
theorem RB {p q:List Tm} {t:Tm} (h:t∈Jh p q):∃ s∈p,∃ u∈q,t.2=Xq s.2 u.2:=by
 unfold Jh XZ at h
 obtain ⟨s,hs,h1⟩:=List.mem_flatMap.1 h
 obtain ⟨u,hu,rfl⟩:=List.mem_map.1 h1
 exact⟨s,hs,u,hu,rfl⟩
theorem q7 {p q:List Tm} (lp:p.length≤64) (lq:q.length≤64) (hp:∀ t∈p,JX t.1≤2400) (hq:∀ t∈q,JX t.1≤2400):Zj (Jh p q)≤30000000:=by
 have h1:=DW (l:=Jh p q) (k:=4800) fun t ht=>by
  unfold Jh XZ at ht
  obtain ⟨s,hs,h1⟩:=List.mem_flatMap.1 ht
  obtain ⟨u,hu,rfl⟩:=List.mem_map.1 h1
  have:=J2 s.1 u.1
  have:=hp s hs
  have:=hq u hu
  show JX (s.1*u.1)≤_
  omega
 rw [WX] at h1
 have h2:p.length*q.length≤64*64:=Nat.mul_le_mul lp lq
 have h3:p.length*q.length*4801≤64*64*4801:=Nat.mul_le_mul_right _ h2
 omega
theorem Yx.small {p:Pt} {v:Int} (h:Yx p v):∀ t∈JM p,∀ k∈t.2,0≤k∧k≤12:=fun t ht=>by
 unfold JM at ht
 obtain ⟨x,hx,rfl⟩:=List.mem_map.1 ht
 exact(VI (h.term x hx)).2.1
theorem qw {a b:List Int} (ha:∀ k∈a,0≤k∧k≤12) (hb:∀ k∈b,0≤k∧k≤12) (hl:a.length≤1000):PW (Xq a b):=by
 refine⟨fun x hx=>?_,by unfold Xq;simp;omega⟩
 unfold Xq at hx
 obtain ⟨i,hi,rfl⟩:=List.getElem_of_mem hx
 simp only [List.length_zipWith] at hi
 have h1:=ha (a[i]'(by omega)) (List.getElem_mem _)
 have h2:=hb (b[i]'(by omega)) (List.getElem_mem _)
 simp only [List.getElem_zipWith]
 omega
theorem IN (ms:List GS):(RG ms).length=ms.length:=by simp [RG]
theorem jP {ms:List GS} {seen:List Nat} {j:Nat} {t:GS} {os:List XY} {o:XY} (e:el ms j=t) (h:t.t.1≠0) (ho:JL os=jO (Y7 (seen.map (el ms)))) (hot:o.t=t.t):JL (os++[o])=jO (Y7 ((seen++[j]).map (el ms))):=by
 have e1:JL (os++[o])=JL os++[o.t]:=by unfold JL;rw [List.map_append];rfl
 have e2:Y7 ((seen++[j]).map (el ms))=Y7 (seen.map (el ms))++[t.t]:=by unfold Y7;rw [List.map_append,List.map_append,List.map_cons,List.map_nil,e];rfl
 rw [e1,e2,ho,hot]
 unfold jO
 rw [List.filter_append]
 simp [h]
theorem zu {ms:List GS} {seen:List Nat} {j:Nat} {t:GS} {os:List XY} (e:el ms j=t) (h:t.t.1=0) (ho:JL os=jO (Y7 (seen.map (el ms)))):JL os=jO (Y7 ((seen++[j]).map (el ms))):=by
 have e2:Y7 ((seen++[j]).map (el ms))=Y7 (seen.map (el ms))++[t.t]:=by unfold Y7;rw [List.map_append,List.map_append,List.map_cons,List.map_nil,e];rfl
 rw [e2,ho]
 unfold jO
 rw [List.filter_append]
 simp [h]
theorem Ci {n:Nat} {ms:List GS} {os cs:List XY} {l:List Tm} {seen:List Nat} (hI:Ex n ms l) (hn:seen.Nodup) (hlt:∀ j∈seen,j<ms.length) (hall:∀ j,j<ms.length→j∈seen) (ho:JL os=jO (Y7 (seen.map (el ms)))) (hp:cs.Perm os) (hs:cs.Pairwise fun x y=>before y.t.2 x.t.2=false):JL cs=XH l:=by
 have h1:(Y7 (seen.map (el ms))).Perm (Y7 ms):=by
  have:=(TR hn hlt hall).map (el ms)
  rw [Bk] at this
  exact this.map _
 have h2:(JL cs).Perm ((Y7 ms).filter fun t=>decide (t.1≠0)):=by
  have e:(JL cs).Perm (JL os):=hp.map _
  rw [ho] at e
  exact e.trans (h1.filter _)
 refine hI.AG.norm h2 ?_
 have hnd:((JL cs).map (·.2)).Nodup:=by
  have h3:((JL cs).map (·.2)).Perm (((Y7 ms).filter fun t=>decide (t.1≠0)).map (·.2)):=h2.map _
  rw [h3.nodup_iff]
  exact(List.filter_sublist.map _).nodup hI.AG.nd
 unfold JL at hnd ⊢
 rw [List.pairwise_map]
 rw [List.map_map] at hnd
 have hnd2:=List.pairwise_map.1 hnd
 refine(hs.and hnd2).imp ?_
 rintro x y ⟨h1,h2⟩
 rcases KG x.t.2 y.t.2 with e | e | e
 ·exact absurd e h2
 ·exact e
 ·rw [h1] at e;cases e
theorem yz.bound {ms:List GS} (s:yz ms):s.n≤ms.length:=by
 have h1:=congrArg List.length s.ho
 have h2:=List.length_filter_le (fun t:Tm=>decide (t.1≠0)) (Y7 (s.seen.map (el ms)))
 have h3:=Gi _ _ s.nd s.lt
 unfold jO at h1
 simp only [JL,Y7,List.length_map] at h1 h2
 have:=s.hn
 omega
theorem yz.mem {n:Nat} {ms:List GS} {l:List Tm} (hI:Ex n ms l) (s:yz ms):∀ t∈s.os,PW t.t.2:=fun t ht=>by
 have h1:t.t∈JL s.os:=List.mem_map_of_mem ht
 rw [s.ho] at h1
 have h2:=(List.mem_filter.1 h1).1
 obtain ⟨e,he,h3⟩:=List.mem_map.1 h2
 obtain ⟨j,hj,h4⟩:=List.mem_map.1 he
 rw [← h3,← h4]
 exact hI.pw _ (Je (s.lt j hj))
theorem LQ {w:World} {F:Gs} {a b:VF} {v:Int} (hF:Fits F w) (hGl:JC F) (hA:YO F [a,b]) (ht:∀ e∈[a,b],Vj e) :
  QT Tryz.prog 40 [a.1.v,b.1.v,.int .i64 v] w F (fun(c:VF)=>.tuple #[c.1.v,.int .i64 (vH [a,b] v (XH (Jh (JM (XG a.2)) (JM (XG b.2)))))]) (fun c F=>Vh F c.1 c.2 (vG [a,b] v (XH (Jh (JM (XG a.2)) (JM (XG b.2)))))):=by
 have ha:a∈[a,b]:=by simp
 have hb:b∈[a,b]:=by simp
 dsimp only [Sr.v]
 refine QT.yC (G:=fun F=>JC F∧YO F [a,b]) Tryz.func40 rfl (by rfl) rfl rfl hF (fun F' hF'=>⟨hGl.le hF',hA.le hF'⟩)<|QG<|QB<|QA (QE rfl)<|QA (QE rfl)<|QF<|QD<|QG<|QG<|QB<|QA (QC rfl)<|QA (QC rfl)<|QA (QC rfl)<|QV rfl (Q8 EA) Mm zB rfl rfl (fun b20=>QH rfl (fun w F hF ⟨⟨hGl,hA⟩,hs20⟩=>H6 hF hGl (JF.of (n:=2) (sz:=1) (cs:=[a,b].map fun e=>e.1.v) hs20 rfl) (hA) (rfl) (by decide) (ht)) (fun _=>QA (QE rfl)<|QF<|QD<|QG<|QB<|QA (QC rfl)<|QA (QU rfl rfl rfl)<|QF<|QD ?_))
 refine QO rfl (fun hc=>?_) (fun hc=>?_)
 ·
  have hc0:=bne_iff_ne.1 hc
  refine QG<|QB<|QA (QC rfl)<|QA (QE rfl)<|QA (QE rfl)<|QF<|QD<|QS<|qT ?_
  exact JH ((⟨none,0,0⟩,[])) rfl (.tmp rfl (.tmp rfl .nil)) (by unfold vH;rw [if_neg hc0]) (fun F ⟨⟨⟨hGl,hA⟩,hs20⟩,_⟩=>by unfold vG;rw [if_neg hc0];exact Vh.nil F)
 ·
  have hc0:=bne_eq_false_iff_eq.1 hc
  obtain ⟨hv,hok⟩:=MJ hc0
  have oa:=hok a ha
  have ob:=hok b hb
  have sa:=oa.Zj
  have sb:=ob.Zj
  have hpa:∀ t∈JM (XG a.2),PW t.2:=oa.pw hv.2
  have hpb:∀ t∈JM (XG b.2),PW t.2:=ob.pw hv.2
  have hwa:∀ t∈JM (XG a.2),t.2.length=(v+1).toNat:=fun t ht=>by have:=oa.wide t ht;omega
  have hwb:∀ t∈JM (XG b.2),t.2.length=(v+1).toNat:=fun t ht=>by have:=ob.wide t ht;omega
  have la:(JM (XG a.2)).length≤64:=by unfold JM;rw [List.length_map];exact oa.len
  have lb:(JM (XG b.2)).length≤64:=by unfold JM;rw [List.length_map];exact ob.len
  have hsz:Zj (Jh (JM (XG a.2)) (JM (XG b.2)))≤30000000:=q7 la lb oa.sz ob.sz
  have hpp:∀ s∈JM (XG a.2),∀ t∈JM (XG b.2),PW (Xq s.2 t.2):=fun s hs t ht=>qw (oa.small s hs) (ob.small t ht) (by rw [hwa s hs];omega)
  have hpn:=NL (l:=Jh (JM (XG a.2)) (JM (XG b.2))) fun t ht=>by
   obtain ⟨s,hs,t',ht',e⟩:=RB ht
   rw [e];exact hpp s hs t' ht'
  have hll:(Jh (JM (XG a.2)) (JM (XG b.2))).length≤4096:=by rw [WX];exact Nat.mul_le_mul la lb
  have hln:=WG (Jh (JM (XG a.2)) (JM (XG b.2)))
  refine QN<|QD<|QG<|QB<|Ve (κ:=xQ 25) VZ (fun m=>QZ y5 (fun b9=>QP (vs:=[_]) rfl rfl rfl DU rfl .here (.here .nil) ⟨rfl,trivial⟩<|QF<|QD<|QG<|QG<|QB<|QA (QC rfl)<|QH rfl (fun w F hF ⟨⟨⟨hGl,hA⟩,hs20⟩,_⟩=>Vn hF hGl (a:=a) (hA a ha).1 (hA a ha).2 (ht a ha) oa hv) (fun c27=>JK _ (fun w F hF h=>And.intro h.2.2.2.1 (And.intro h.2.len (And.intro h.2.2.2.2.2 (fun t ht=>(h.2.2.1 t ht).2.2.1)))) (fun h27p=>?_))))
  obtain ⟨e27,l27,m27,r27⟩:=h27p
  refine QA (QC rfl)<|QH rfl (fun w F hF ⟨⟨⟨⟨hGl,hA⟩,hs20⟩,_⟩,h27⟩=>Vn hF hGl (a:=b) (hA b hb).1 (hA b hb).2 (ht b hb) ob hv) (fun c29=>JK _ (fun w F hF h=>And.intro h.2.2.2.1 (And.intro h.2.len (And.intro h.2.2.2.2.2 (fun t ht=>(h.2.2.1 t ht).2.2.1)))) (fun h29p=>?_))
  obtain ⟨e29,l29,m29,r29⟩:=h29p
  refine QH rfl (fun w F hF ⟨⟨⟨⟨⟨hGl,hA⟩,hs20⟩,_⟩,h27⟩,h29⟩=>Ak (p:=c27.1) (q:=c29.1) hF) (fun c30=>QF<|QD<|Qa<|kc (fun G hG=>?_))
  have hgl:∀ F,G F→JC F:=fun F h=>by obtain ⟨⟨⟨⟨⟨⟨hGl,hA⟩,hs20⟩,_⟩,h27⟩,h29⟩,h30⟩:=hG F h;exact hGl
  have hpr:∀ F,G F→F c30.1=some (#[c27.1.v],157)∧F c30.2=some (#[c29.1.v],157)∧Jm F c27.1 c27.2 (JL c27.2)∧Jm F c29.1 c29.2 (JL c29.2):=fun F h=>by
   obtain ⟨⟨⟨⟨⟨⟨hGl,hA⟩,hs20⟩,_⟩,h27⟩,h29⟩,h30⟩:=hG F h
   exact⟨h30.1,h30.2,by rw [e27];exact h27,by rw [e29];exact h29⟩
  have hvn:(v+1).toNat≤25:=by omega
  have hlp:(Jh (JL c27.2) (JL c29.2))=(Jh (JM (XG a.2)) (JM (XG b.2))):=by rw [e27,e29]
  refine U8 (ι:=kY (v+1).toNat (Jh (JM (XG a.2)) (JM (XG b.2)))) (fun s=>[(b9,.cells [.map (some m)].toArray 152 (0,0)),(m,ZD VZ (RG s.ms))]) (fun s F=>kb F s.ms) (fun s=>s.k=(Jh (JM (XG a.2)) (JM (XG b.2))).length) rfl (enters_of Tryz.func209 (by rfl) rfl) (fun L D r W hrec hW=>?_) (fun D s hs=>?_)
  ·have hprod:=Tf (ι:=kY (v+1).toNat (Jh (JM (XG a.2)) (JM (XG b.2)))) (w0:=w) (F0:=F) (B:=fun s=>(L,.loop r)::(D,.deferred (some []))::(b9,.cells [.map (some m)].toArray 152 (0,0))::[(m,ZD VZ (RG s.ms))]) (H:=fun s F=>G F∧kb F s.ms) (pos:=fun s=>s.k) (p:=c27) (q:=c29) (b1:=c30.1) (b2:=c30.2) (L:=L) (n:=(v+1).toNat)
    (fun s F h=>hpr F h.1) ⟨m27,m29⟩
    ⟨fun t ht=>⟨XJ e27 hwa t ht,by rw [← r27 t ht];exact XJ e27 hwa t ht,XJ e27 hpa t ht⟩,fun t ht=>⟨XJ e29 hwb t ht,by rw [← r29 t ht];exact XJ e29 hwb t ht,XJ e29 hpb t ht⟩⟩ hvn (by omega)
    ⟨fun t ht=>Nat.le_trans (XJ (Q:=fun t=>JX t.1≤2400) e27 oa.sz t ht) (by omega),fun t ht=>Nat.le_trans (XJ (Q:=fun t=>JX t.1≤2400) e29 ob.sz t ht) (by omega)⟩
    (fun G' C s i j x W hi hj hk hst=>?_) ⟨0,[],Ex.nil⟩ rfl
   ·refine(hprod.2 W (hW.Bn fun F h=>⟨h,fun e he=>by cases he⟩)).mono ?_
    rintro e w' ⟨c,rfl,h⟩
    refine⟨⟨_,rfl⟩,c.1,?_,h⟩
    have h1:=c.2
    rw [h1,← hlp,P0,KI,KI]
   ·have hat:=CF hi hj
    rw [hlp,← hk] at hat
    obtain ⟨ta,hta⟩:∃ ta,ta=el c27.2 i:=⟨_,rfl⟩
    obtain ⟨tb,htb⟩:∃ tb,tb=el c29.2 j:=⟨_,rfl⟩
    have hma:ta.t∈JM (XG a.2):=by rw [hta,← e27];exact List.mem_map_of_mem (Je hi)
    have hmb:tb.t∈JM (XG b.2):=by rw [htb,← e29];exact List.mem_map_of_mem (Je hj)
    rw [← hta,← htb] at hat hst ⊢
    obtain ⟨f,hfe⟩:∃ f,f=ta.t.1*tb.t.1:=⟨_,rfl⟩
    obtain ⟨p,hpe⟩:∃ p,p=Xq ta.t.2 tb.t.2:=⟨_,rfl⟩
    have hpw:PW p:=by rw [hpe];exact hpp _ hma _ hmb
    have hpl:p.length=(v+1).toNat:=by rw [hpe,KZ (by rw [hwa _ hma,hwb _ hmb]),hwa _ hma]
    rw [← hfe,← hpe] at hat
    rw [← hfe] at hst
    rw [← hpe]
    have htk:=qf hat
    have hzf:JX f≤20000000:=by have:=J2 ta.t.1 tb.t.1;have:=oa.sz _ hma;have:=ob.sz _ hmb;rw [hfe];omega
    rcases xy hvn s.ms p 0 s.hI.wd hpl with ⟨hfm,hm⟩ | ⟨jj,t0,ht0,h0,hfm⟩
    ·
     refine Mh hst .here (by rw [hrec.params];rfl) (EE hrec _ _ (by decide) (by decide)) ?_
     rw [hrec.assign,hrec.body]
     refine GV<|ZW (X5 L) (fun⟨_,_,h⟩=>h) rfl<|QZ Fk (fun b10=>QP (vs:=(YH p).1.map Qz) rfl rfl rfl W5 (KK _) .here (Rx (by rw [KK];rfl)) (R5 _)<|QF<|Vy<|ZW (X5 L) (fun⟨_,_,h⟩=>h) rfl<|QZ X1 (fun b11=>QP (vs:=[_,_,_,_]) rfl rfl rfl Qg rfl .here (.here (.here (.here (.here .nil)))) ⟨rfl,rfl,rfl,rfl,trivial⟩<|QF<|Iq (.there (.there .here)) hrec.state<|AB<|GV<|GV<|ZW (X5 L) (fun⟨_,_,h⟩=>h) rfl<|QA (Qn rfl DU (.there (.there (.there (.there .here)))) (.here .nil))<|QA (QL (vs:=(YH p).1.map Qz) rfl W5 (.there .here) (PD.all _) (KK _))<|QA (Pw SJ rfl rfl NO qX (.there (.there (.there (.there (.there .here))))) hfm)<|QA (QC rfl)<|QA (QK rfl rfl)<|QA (QK rfl rfl)<|QZ X1 (fun b12=>QP (vs:=[_,_,_,_]) rfl rfl rfl Qg rfl .here (.here (.here (.here (.here .nil)))) ⟨rfl,rfl,rfl,rfl,trivial⟩<|QA (QE rfl)<|QF ?_)))
     refine Vy<|GV<|ZW (X5 L) (fun⟨_,_,h⟩=>h) rfl<|QA (QC rfl)<|QF<|Vy ?_
     refine Im rfl (fun hc=>?_) (fun hc=>?_)
     ·cases hc
     ·refine xN ?_
      refine Vy<|ZW (X5 L) (fun⟨_,_,h⟩=>h) rfl<|QA (Qn rfl DU (.there (.there (.there (.there (.there .here))))) (.here .nil))<|QA (QL (vs:=(YH p).1.map Qz) rfl W5 (.there (.there .here)) (PD.all _) (KK _))<|QA (QL (vs:=[_,_,_,_]) rfl Qg (.there .here) (.here (.here (.here (.here .nil)))) rfl)<|Gw (k:=YH p) (v:=x.v) SJ rfl rfl rfl NO (.there (.there (.there (.there (.there (.there .here))))))<|QF<|Qm ?_
      refine Ip (.there (.there (.there .here))) (fun w1 hw1=>⟨rfl,⟨s.k+1,Dx s.ms ⟨x,(f,p)⟩,by rw [htk];exact s.hI.add hpw hpl (by rw [RS hm,Rat.add_zero])⟩,rfl,?_⟩)
      rw [M5 hrec,← NY hvn s.ms ⟨x,(f,p)⟩ s.hI.wd hpl] at hw1
      exact St.imp hw1 (.cons _ (.cons _ (.cons _ (List.Sublist.refl _)))) (fun F h=>⟨h.1.1,h.1.2.1,fun e he=>by
       rcases Bj he with rfl | he
       ·exact h.2
       ·exact h.1.2.2 e he⟩)
    ·
     have hzc:=s.hI.sz ht0
     have hzt:=zH (l:=(Jh (JM (XG a.2)) (JM (XG b.2)))) (k:=s.k)
     have hc0:Jl (Y7 s.ms) p=t0.t.1:=by rw [← h0];exact s.hI.AG.DC (List.mem_map_of_mem (f:=GS.t) ht0)
     refine Mh hst .here (by rw [hrec.params];rfl) (EE hrec _ _ (by decide) (by decide)) ?_
     rw [hrec.assign,hrec.body]
     refine GV<|ZW (X5 L) (fun⟨_,_,h⟩=>h) rfl<|QZ Fk (fun b10=>QP (vs:=(YH p).1.map Qz) rfl rfl rfl W5 (KK _) .here (Rx (by rw [KK];rfl)) (R5 _)<|QF<|Vy<|ZW (X5 L) (fun⟨_,_,h⟩=>h) rfl<|QZ X1 (fun b11=>QP (vs:=[_,_,_,_]) rfl rfl rfl Qg rfl .here (.here (.here (.here (.here .nil)))) ⟨rfl,rfl,rfl,rfl,trivial⟩<|QF<|Iq (.there (.there .here)) hrec.state<|AB<|GV<|GV<|ZW (X5 L) (fun⟨_,_,h⟩=>h) rfl<|QA (Qn rfl DU (.there (.there (.there (.there .here)))) (.here .nil))<|QA (QL (vs:=(YH p).1.map Qz) rfl W5 (.there .here) (PD.all _) (KK _))<|QA (Td SJ rfl rfl NO (.there (.there (.there (.there (.there .here))))) hfm)<|QA (QC rfl)<|QA (QK rfl rfl)<|QA (QK rfl rfl)<|QZ X1 (fun b12=>QP (vs:=[_,_,_,_]) rfl rfl rfl Qg rfl .here (.here (.here (.here (.here .nil)))) ⟨rfl,rfl,rfl,rfl,trivial⟩<|QA (QE rfl)<|QF ?_)))
     refine Vy<|GV<|ZW (X5 L) (fun⟨_,_,h⟩=>h) rfl<|QA (QC rfl)<|QF<|Vy ?_
     refine Im rfl (fun hc=>?_) (fun hc=>?_)
     ·refine ZW (X5 L) (fun⟨_,_,h⟩=>h) rfl ?_
      refine QA (QL (vs:=[_,_,_,_]) rfl Qg (.there .here) (.here (.here (.here (.here .nil)))) rfl)<|QA (QL (vs:=[_,_,_,_]) rfl Qg .here (.here (.here (.here (.here .nil)))) rfl)<|QH rfl (fun w F hF h=>Hz (x:=x) (y:=t0.x) (r:=f) (s:=t0.t.1) hF h.2 (h.1.2.2 t0 ht0) (by omega) (by omega)) (fun x42=>QP (vs:=[_,_,_,_]) rfl rfl rfl Qg rfl (.there .here) (.here (.here (.here (.here .nil)))) ⟨rfl,rfl,rfl,rfl,trivial⟩<|QF<|Vy<|ZW (X5 L) (fun⟨_,_,h⟩=>h) rfl<|QA (Qn rfl DU (.there (.there (.there (.there (.there .here))))) (.here .nil))<|QA (QL (vs:=(YH p).1.map Qz) rfl W5 (.there (.there .here)) (PD.all _) (KK _))<|QA (QL (vs:=[_,_,_,_]) rfl Qg (.there .here) (.here (.here (.here (.here .nil)))) rfl)<|Gw (k:=YH p) (v:=x42.v) SJ rfl rfl rfl NO (.there (.there (.there (.there (.there (.there .here))))))<|QF<|Qm ?_)
      refine Ip (.there (.there (.there .here))) (fun w1 hw1=>⟨rfl,⟨s.k+1,Dx s.ms ⟨x42,(f+t0.t.1,p)⟩,by rw [htk];exact s.hI.add hpw hpl (by rw [hc0])⟩,rfl,?_⟩)
      rw [M5 hrec,← NY hvn s.ms ⟨x42,(f+t0.t.1,p)⟩ s.hI.wd hpl] at hw1
      exact St.imp hw1 (.cons _ (.cons _ (.cons _ (List.Sublist.refl _)))) (fun F h=>⟨h.1.1.1,h.1.1.2.1,fun e he=>by
       rcases Bj he with rfl | he
       ·exact h.2
       ·exact h.1.1.2.2 e he⟩)
     ·cases hc
  letI:Df:=Hv D
  have hI:Ex (v+1).toNat s.ms (Jh (JM (XG a.2)) (JM (XG b.2))):=by have h:=s.hI;rw [hs,List.take_length] at h;exact h
  refine Qm<|QD<|QG<|QB<|QA (QE rfl)<|QF<|QD<|QG<|QG<|QB<|QA (Qn rfl DU (.there .here) (.here .nil))<|Ec (kv:=RG s.ms) (K:=VZ) rfl NO (.there (.there .here)) (fun b47=>QF<|QD<|Qa<|Jz (ι:=yz s.ms) [(2,_),(47,_)] (fun i=>[(14,i.v)]) (fun i=>(b47,IP m (RG s.ms).length i.seen)::(D,.deferred (some []))::(b9,.cells [.map (some m)].toArray 152 (0,0))::(m,ZD VZ (RG s.ms))::i.ob) (fun i F=>Vk F i.os) (fun i=>s.ms.length - i.seen.length) (⟨[],[],_,0,[],.nil,List.nodup_nil,(fun _ h=>by cases h),rfl,rfl⟩) ⟨rfl,rfl,trivial⟩ ⟨rfl,trivial⟩ (List.Sublist.refl _) (fun _ _ _ h=>by cases h) (fun i=>?_))
  simp only [List.cons_append,List.nil_append]
  refine QG<|QB<|PB (kv:=RG s.ms) (K:=VZ) (b:=m) rfl .here (.there (.there (.there .here))) (fun x hx=>QA (QK rfl (xk x))<|QF<|QD<|QG ?_)
  refine QO rfl (fun hc=>?_) (fun hc=>?_)
  ·
   obtain ⟨j,rfl⟩:∃ j,x=some j:=by
    cases x with
    |none=>cases hc
    |some j=>exact⟨j,rfl⟩
   obtain ⟨hj,hjn⟩:=hx
   rw [IN] at hj
   obtain ⟨hs1,hs2,hs3⟩:=Pp i.nd i.lt hj hjn
   have htm:=Je hj
   have hkj:(RG s.ms)[j]?=some (YH (el s.ms j).t.2,(el s.ms j).x.v):=by rw [RG,List.getElem?_map,List.getElem?_eq_getElem hj,Zi hj];rfl
   generalize hte:el s.ms j=t at htm hkj
   have htw:=hI.wd t htm
   have htp:=hI.pw t htm
   refine QN<|QD<|Qa<|QG<|QB<|QA (IB (kv:=RG s.ms) (K:=VZ) (p:=(YH t.t.2,t.x.v)) rfl .here (.there (.there (.there .here))) hkj)<|QA (QK rfl rfl)<|QA (QK rfl rfl)<|QZ Fk (fun b15=>QZ X1 (fun b16=>QP (vs:=(YH t.t.2).1.map Qz) rfl rfl rfl W5 (KK _) (.there .here) (Rx (by rw [KK];rfl)) (R5 _)<|QP (vs:=[_,_,_,_]) rfl rfl rfl Qg rfl .here (.here (.here (.here (.here .nil)))) ⟨rfl,rfl,rfl,rfl,trivial⟩<|QF<|QD<|QG<|QB<|QA (QL (vs:=[_,_,_,_]) rfl Qg .here (.here (.here (.here (.here .nil)))) rfl)<|QH rfl (fun w F hF ⟨⟨hG0,hMs⟩,hOs⟩=>Gl hF (hMs t htm)) (fun _=>QA (QU rfl rfl rfl)<|QF<|QD ?_)))
   refine QO rfl (fun hc=>?_) (fun hc=>?_)
   ·
    have hnz:t.t.1≠0:=fun e=>by rw [e] at hc;cases hc
    refine PA (b:=b15) (.there .here)<|JQ (List.sublist_append_left [_,_,_,_,_] i.ob) mixed (by kernel_rfl)<|QM (QC rfl)<|QM (QL (vs:=[_,_,_,_]) rfl Qg .here (.here (.here (.here (.here .nil)))) rfl)<|QM (QC rfl)<|QM (Qw rfl rfl (by omega))<|QM (Ag (h:=(v+1).toNat) rfl (congrArg (fun z:Int=>some (Value.int .i64 z)) (by omega)) qH Qu (by omega))<|Qb rfl (fun w F hF ⟨⟨⟨⟨hG0,hMs⟩,hOs⟩,_⟩,hk15⟩=>Sg (r:=⟨some ⟨b15,0,none⟩,(v+1).toNat,25⟩) hF (Oo hk15 htw (by omega)) (by rw [htw];omega)) (fun c61=>QM (Q9 rfl ND Ze (.cons (vs:=[_,_,_,_]) rfl rfl rfl (.here (.here (.here (.here .nil)))) (.cons (vs:=[_]) rfl rfl rfl (.skip (.skip (.skip (.skip (.here .nil))))) .nil))) ?_)
    refine Ju rfl (Q8 J1) Jf Ze rfl rfl (fun b63=>?_) (fun w h=>h.imp (.cons_cons _ (.cons_cons _ (.cons_cons _ (.cons_cons _ (.cons_cons _ (List.nil_sublist _)))))) (fun F h=>h.1))
    refine AD (List.perm_append_comm (l₁:=[_,_,_,_,_])) ?_
    refine D3 (n:=i.n) (k:=1) (sz:=5) (news:=Yl ⟨t.x,c61,t.t⟩) rfl rfl J1 Jf Ze rfl Ff i.hr (Src.row (off:=0) (fun F ⟨⟨⟨⟨⟨⟨hG0,hMs⟩,hOs⟩,_⟩,hk15⟩,h61⟩,hs63⟩=>hs63) (fun j v hv=>by rw [Nat.zero_add];show((Yl ⟨t.x,c61,t.t⟩).toArray)[j]?=some v;rw [List.getElem?_toArray];exact hv) rfl) (by have:=i.bound;have:=hI.ln;omega) (by have:=i.bound;have:=hI.ln;omega) (R8 _) (List.Sublist.refl _) (fun _ h=>h.1.1) (fun v64 ob64 hr64=>?_)
    refine AD (List.perm_append_comm (l₂:=[_,_,_,_,_]))<|QM (QE rfl)<|Q3<|Qm ?_
    exact Qo (⟨i.seen++[j],i.os++[⟨t.x,c61,t.t⟩],v64,i.n+1,ob64,by rw [List.flatMap_append];simpa using hr64,hs1,hs2,by rw [List.length_append,i.hn];rfl,jP hte hnz i.ho rfl⟩) (by show _ - (i.seen++[j]).length<_;rw [List.length_append];simp only [List.length_singleton];omega) ⟨rfl,rfl,rfl,trivial⟩ (.cons _ (List.Sublist.refl _)) (fun F ⟨⟨⟨⟨⟨⟨hG0,hMs⟩,hOs⟩,_⟩,hk15⟩,h61⟩,hs63⟩=>⟨⟨hG0,hMs⟩,fun o ho=>by
   rcases List.mem_append.1 ho with ho | ho
   ·exact hOs o ho
   ·rw [List.mem_singleton.1 ho];exact⟨hMs t htm,h61⟩⟩)
   ·
    have hz:t.t.1=0:=BR.1 (by simpa using hc)
    refine QN<|Qm ?_
    exact Qo (⟨i.seen++[j],i.os,i.v,i.n,i.ob,i.hr,hs1,hs2,i.hn,zu hte hz i.ho⟩) (by show _ - (i.seen++[j]).length<_;rw [List.length_append];simp only [List.length_singleton];omega) ⟨rfl,rfl,rfl,trivial⟩ (.cons _ (.cons _ (List.Sublist.refl _))) (fun F h=>⟨h.1.1,h.1.2⟩)
  ·
   obtain rfl:x=none:=by
    cases x with
    |none=>rfl
    |some j=>cases hc
   rw [show vb (RG s.ms).length i.seen none=∀ j,j<(RG s.ms).length→j∈i.seen from rfl,IN] at hx
   refine Q6 ?_
   repeat (first | refine Qc ?_ | refine QX (by rfl) ?_)
   refine Qd<|QD<|QG<|QB<|QA (QC rfl)<|XN rfl (List.perm_append_comm (l₁:=[_,_,_,_]) (l₂:=i.ob)) (Oa qD i.hr (fun F h=>h.2) (yz.mem hI i) i.hn (by have:=i.bound;have:=hI.ln;omega)) (fun c=>JK _ (fun w F hF h=>h.2) (fun hso=>?_))
   have hmn:JL c.1=XH (Jh (JM (XG a.2)) (JM (XG b.2))):=Ci hI i.nd i.lt hx i.ho hso.2.1 hso.2.2
   obtain ⟨r,hv2,hrn,hrc,hfix⟩:=Q4.fix (w0:=w) (F0:=F) (bs1:=[(b47,IP m (RG s.ms).length (kI i.seen none)),(D,.deferred (some [])),(b9,.cells [.map (some m)].toArray 152 (0,0)),(m,ZD VZ (RG s.ms))]) (G:=_) hso.1
   refine ZI (List.perm_append_comm (l₁:=c.2))<|xM hfix ?_
   rw [hv2]
   refine QF<|QD<|QG<|QB<|QA (QC rfl)<|QH rfl (fun w F hF ⟨⟨⟨⟨hG0,hMs⟩,hOs⟩,_⟩,hrow⟩=>GB hF (q:=r.q) (n:=r.n) (cap:=r.cap) (ts:=c.1) ⟨by rw [hrn];exact hrow,fun t ht=>hOs t (hso.2.1.mem_iff.1 ht),rfl,by rw [hrn];exact hrc,hso.2.1.length_eq.trans (i.hn.trans hrn.symm)⟩ (hgl _ hG0) (XJ hmn hpn) (fun t htm=>Nat.le_trans (DV (XJ hmn (fun x hx=>hx) t htm)) (by omega)) (by have:=congrArg List.length hmn;simp only [KI] at this;omega)) (fun c68=>?_)
   rw [hmn]
   refine QA (QK rfl rfl)<|QA (QK rfl rfl)<|QA (QE rfl)<|QA (QE rfl)<|QF<|QD<|QS<|yt (.there .here) ?_
   exact JH (c68) rfl (.tmp rfl (.tmp rfl .nil)) (by unfold vH;rw [if_pos hc0];rfl) (fun F ⟨⟨⟨⟨⟨hG0,hMs⟩,hOs⟩,_⟩,hrow⟩,h68⟩=>by unfold vG;rw [if_pos hc0];exact h68)
end
section
open Go.RowKit Ig
theorem I0:((Tryz.prog.fieldsOf 24).toList.map fun f=>(f.name,f.offset,f.type))=[("Low",0,22),("High",1,22)]:=by kernel_rfl
theorem AV:Tryz.prog.underlying 24=some (.struct (Tryz.prog.fieldsOf 24)):=by kernel_rfl
theorem Iz:Tryz.prog.stoodInHeld 24=false:=by kernel_rfl
theorem AW:Tryz.prog.eqGuardType Tryz.prog.depth 24=false:=by kernel_rfl
theorem F6:Tryz.prog.underlying 22=some .string:=by kernel_rfl
theorem AO {α β:Type} {f:α→β} {l:List α} {x y:β} (h:l.map f=[x,y]):∃ a b,l=[a,b]∧f a=x∧f b=y:=by
 match l,h with
 |[a,b],h=>simp only [List.map_cons,List.map_nil,List.cons.injEq,and_true] at h;exact⟨a,b,rfl,h.1,h.2⟩
theorem equal_span (w:World) (a b c d:List UInt8):(Op.equal 24 (.agg #[tx a,tx b]) (.agg #[tx c,tx d])).run Tryz.prog w = .ok (decide (a=c)&&decide (b=d)) w:=by
 obtain ⟨f1,f2,hf,h1,h2⟩:=AO I0
 simp only [Prod.mk.injEq] at h1 h2
 exact equal_txs AV Iz hf ⟨by rw [h1.1];decide,h1.2.1,by rw [h1.2.2];exact F6⟩ ⟨by rw [h2.1];decide,h2.2.1,by rw [h2.2.2];exact F6⟩ w a b c d
section
variable [Dr] [df:Df] {N:Nat} {m:Sl} {S:World→Prop} {ty:TypeId}
theorem O6 {yT:TypeId} {x y:Operand} {a b c d:List UInt8} (hx:ev m x=some (.agg #[tx a,tx b])) (hy:ev m y=some (.agg #[tx c,tx d])):Qt Tryz.prog N m S (.binOp .neq 24 x y yT) ty (.bool (!(decide (a=c)&&decide (b=d)))):=fun ac w _ _ _ _ ha _=>by
 have h1:=equal_span w a b c d
 simp only [execOp,ha.ev hx,ha.ev hy,Sem.run_bind]
 have h2:(eqGuard .neq 24 x y (.agg #[tx a,tx b]) (.agg #[tx c,tx d])).run Tryz.prog w = .ok () w:=by
  simp [eqGuard,AW]
 rw [h2]
 simp [binOp,h1]
end
end
section
open Go.RowKit Ig
end
section
open Go.RowKit Ig
def Hi (c:Rat×Rat) (bs:List (Rat×Rat)) (ks:List Int) (i:Nat):Rat×Rat:=(List.range i).foldl (fun a j=>if Qf ks j>0 then V1 a (Bc (el bs j) (Qf ks j)) else a) c
theorem DR (c:Rat×Rat) (bs:List (Rat×Rat)) (ks:List Int) (i:Nat):Hi c bs ks (i+1)=if Qf ks i>0 then V1 (Hi c bs ks i) (Bc (el bs i) (Qf ks i)) else Hi c bs ks i:=by
 unfold Hi;rw [List.range_succ,List.foldl_append];rfl
def qK (a b:Rat×Rat):Rat×Rat:=(a.1+b.1,a.2+b.2)
def EN (bs:List (Rat×Rat)) (l:List Tm):Rat×Rat:=l.foldl (fun a t=>qK a (Hi (t.1,t.1) bs t.2 t.2.length)) (0,0)
theorem FO {ts:List XY} {bs:List (Rat×Rat)} {i:Nat} (h:i<ts.length):EN bs (JL (ts.take (i+1)))=qK (EN bs (JL (ts.take i))) (Hi ((el ts i).t.1,(el ts i).t.1) bs (el ts i).t.2 (el ts i).t.2.length):=by
 rw [Xs h];unfold EN;rw [List.foldl_append];rfl
def N9 (a:Rat×Rat) (k:Nat):Prop:=JX a.1≤k∧JX a.2≤k
theorem N9.mono {a:Rat×Rat} {k l:Nat} (h:N9 a k) (g:k≤l):N9 a l:=⟨Nat.le_trans h.1 g,Nat.le_trans h.2 g⟩
theorem ET {r:Rat} {l:List Rat} {k:Nat} (h:JX r≤k) (hl:∀ x∈l,JX x≤k):N9 (K3 r l) k:=Pf l (r,r) h h hl
theorem AR {a b:Rat×Rat} {m n:Nat} (ha:N9 a m) (hb:N9 b n):N9 (V1 a b) (m+n):=by
 have h:∀ x y:Rat,JX x≤m→JX y≤n→JX (x*y)≤m+n:=fun x y h1 h2=>by have:=J2 x y;omega
 unfold V1
 refine ET (h _ _ ha.1 hb.1) fun x hx=>?_
 simp only [List.mem_cons,List.not_mem_nil,or_false] at hx
 rcases hx with rfl | rfl | rfl
 ·exact h _ _ ha.1 hb.2
 ·exact h _ _ ha.2 hb.1
 ·exact h _ _ ha.2 hb.2
theorem Ti {a:Rat×Rat} {n:Int} {m:Nat} (ha:N9 a m) (hn:n≤12):N9 (Bc a n) (12*m+1):=by
 have h:∀ x:Rat,JX x≤m→JX (x^n.toNat)≤12*m+1:=fun x hx=>by
  have h1:=BG x n.toNat
  have h2:n.toNat*JX x≤12*m:=Nat.mul_le_mul (by omega) hx
  omega
 have hs:N9 (K3 (a.1^n.toNat) [a.2^n.toNat]) (12*m+1):=ET (h _ ha.1) fun x hx=>by
  simp only [List.mem_cons,List.not_mem_nil,or_false] at hx
  rw [hx];exact h _ ha.2
 refine⟨?_,hs.2⟩
 unfold Bc
 dsimp only
 split
 ·have:JX (0:Rat)≤1:=by decide
  omega
 ·exact hs.1
theorem xH {a b:Rat×Rat} {m n:Nat} (ha:N9 a m) (hb:N9 b n):N9 (qK a b) (m+n+1):=by
 have h1:=Yr a.1 b.1
 have h2:=Yr a.2 b.2
 have h3:=ha.1
 have h4:=ha.2
 have h5:=hb.1
 have h6:=hb.2
 exact⟨by show JX (a.1+b.1)≤_;omega,by show JX (a.2+b.2)≤_;omega⟩
theorem qc {c:Rat×Rat} {bs:List (Rat×Rat)} {ks:List Int} (hc:N9 c 2400) (hx:∀ x∈bs,N9 x 2400) (hk:∀ k∈ks,0≤k∧k≤12):∀ i,i≤bs.length→i≤ks.length→N9 (Hi c bs ks i) (2400+i*28801):=by
 intro i
 induction i with
 |zero=>intro _ _;simpa [Hi] using hc
 |succ i ih =>
  intro h1 h2
  have h3:=ih (by omega) (by omega)
  have h6:=hx _ (Je (show i<bs.length by omega))
  have h7:0≤Qf ks i∧Qf ks i≤12:=by rw [X9 (show i<ks.length by omega)];exact hk _ (Je (by omega))
  rw [DR]
  split
  ·exact(AR h3 (Ti h6 h7.2)).mono (by omega)
  ·exact h3.mono (by omega)
theorem Uj {bs:List (Rat×Rat)} {B:Nat}:∀ (l:List Tm) (a:Rat×Rat) (k:Nat),N9 a k→(∀ t∈l,N9 (Hi (t.1,t.1) bs t.2 t.2.length) B)→N9 (l.foldl (fun a t=>qK a (Hi (t.1,t.1) bs t.2 t.2.length)) a) (k+l.length*(B+1))
 |[],a,k,h,_=>by simpa using h
 |t::l,a,k,h,hl=>by
  have h1:=Uj l (qK a (Hi (t.1,t.1) bs t.2 t.2.length)) _ (xH h (hl t (by simp))) fun t ht=>hl t (by simp [ht])
  rw [List.foldl_cons,List.length_cons,Nat.add_mul]
  exact h1.mono (by omega)
def Ys (s:List UInt8×List UInt8):Rat×Rat:=(JA s.1,JA s.2)
def yL (p:Pt) (ss:List (List UInt8×List UInt8)):(List UInt8×List UInt8)×Int :=
 if P1 p ss.length=0 then(if Qj (ss.map fun s=>XR s.1 s.2)=0 then Bs (EN (ss.map Ys) (JM p)) else(([],[]),Qj (ss.map fun s=>XR s.1 s.2))) else(([],[]),P1 p ss.length)
structure dP (n:Nat) where
 i:Nat
 x:Sp
 le:i≤n
structure dQ (n:Nat) where
 j:Nat
 y:Sp
 le:j≤n
theorem Li {ss:List (List UInt8×List UInt8)} {j:Nat} (h:j<ss.length):el (ss.map Ys) j=Ys (el ss j):=by rw [Zi (by simpa using h),Zi h];simp
def zJ (x:Sp):List Value:=Cy x.lo++Cy x.hi
theorem Um {w:World} {F:Gs} {a:VF} {q:Option Addr} {n cap:Nat} {ss:List (List UInt8×List UInt8)} (hF:Fits F w) (hGl:JC F) (hR:JF F a.1.q a.1.n 2 (a.2.flatMap Wm)) (hA:Yo F a.2) (ht:Vj a) (hS:JF F q n 2 (ss.flatMap TI)) (hn:ss.length=n) (hl:∀ s∈ss,s.1.length≤1000000∧s.2.length≤1000000) (hnb:n≤1000000) :
  QW Tryz.prog 81 [a.1.v,.slice q n cap] w F (.tuple #[.agg #[tx (yL (XG a.2) ss).1.1,tx (yL (XG a.2) ss).1.2],.int .i64 (yL (XG a.2) ss).2]):=by
 dsimp only [Sr.v]
 refine QT.intro (G:=fun F=>JC F∧JF F a.1.q a.1.n 2 (a.2.flatMap Wm)∧Yo F a.2∧JF F q n 2 (ss.flatMap TI)) Tryz.func81 rfl (by rfl) rfl rfl hF (fun F' hF'=>⟨hGl.le hF',hR.le hF',hA.le hF',hS.le hF'⟩)<|QG<|QB ?_
 refine QZ Yp (fun b4=>?_)
 refine QA (QE rfl)<|QF<|QD<|QG<|QG<|QB<|QA (QC rfl)<|QA (QC rfl)<|QA (Ql rfl TK) ?_
 refine QH rfl (fun w F hF ⟨hGl,hR,hA,hS⟩=>CJ hF (hGl) (hR) (hA) (ht) (hnb)) (fun _=>?_)
 refine QA (QE rfl)<|QF<|QD<|QG<|QB<|QA (QC rfl)<|QA (QU rfl rfl rfl)<|QF<|QD ?_
 refine QO rfl (fun hc=>?_) (fun hc=>?_)
 ·
  have hc0:=bne_iff_ne.1 hc
  refine QG<|QB<|QA (Q9 rfl KR Yp .nil)<|QA (QC rfl)<|QP (vs:=[_,_]) rfl rfl rfl Jw rfl .here (.here (.here .nil)) ⟨rfl,rfl,trivial⟩<|QA (QE rfl)<|QF<|QD<|QS ?_
  exact JH (()) rfl (.Ja (c:=[_,_]) rfl Jw .here (.tmp rfl .nil)) (by unfold yL;rw [hn,if_neg hc0];rfl) (fun F ⟨⟨hGl,hR,hA,hS⟩,_⟩=>trivial)
 ·
  have hc0:=bne_eq_false_iff_eq.1 hc
  have hpl:Qj [if decide ((n:Int)=0)=true then 2 else 0,if decide ((n:Int)>25)=true then 5 else 0]=0∧X4 (XG a.2) ((n:Int) - 1)=0:=by
   unfold P1 at hc0
   by_cases g:Qj [if decide ((n:Int)=0)=true then 2 else 0,if decide ((n:Int)>25)=true then 5 else 0]=0
   ·rw [if_pos g] at hc0;exact⟨g,hc0⟩
   ·rw [if_neg g] at hc0;exact absurd hc0 g
  have hn1:=IE hpl.1
  have oa:=V5 hpl.2
  refine QN<|QD<|QG<|QG<|QB<|QA (QC rfl) ?_
  refine QH rfl (fun w F hF ⟨⟨hGl,hR,hA,hS⟩,_⟩=>FQ (f:=22) (es:=ss.map fun s=>XR s.1 s.2) (vs:=fun i=>TI (el ss i)) (c1:=[]) (c2:=[]) (G0:=JC) hF (fun F F' hle h=>h.le hle) hGl hS (by rw [List.length_map];exact hn) (by omega)
   (fun i hi=>⟨rfl,fun j v hv=>XU (f:=TI) (l:=ss) (fun _=>rfl) (by omega) hv⟩)
   (fun i hi v hv=>by
    unfold TI at hv
    simp only [List.mem_cons,List.not_mem_nil,or_false] at hv
    rcases hv with rfl | rfl<;>rfl)
   (fun i hi w F hF hG=>by
    rw [List.getElem_map,← Zi (show i<ss.length by simpa using hi)]
    exact KX hF hG (hl _ (Je (show i<ss.length by simpa using hi))))) (fun _=>?_)
  refine QA (QE rfl)<|QF<|QD<|QG<|QB<|QA (QC rfl)<|QA (QU rfl rfl rfl)<|QF<|QD ?_
  refine QO rfl (fun hc=>?_) (fun hc=>?_)
  ·
   have hd0:=bne_iff_ne.1 hc
   refine QG<|QB<|QA (Q9 rfl KR Yp .nil)<|QA (QC rfl)<|QP (vs:=[_,_]) rfl rfl rfl Jw rfl .here (.here (.here .nil)) ⟨rfl,rfl,trivial⟩<|QA (QE rfl)<|QF<|QD<|QS ?_
   exact JH (()) rfl (.Ja (c:=[_,_]) rfl Jw .here (.tmp rfl .nil)) (by unfold yL;rw [hn,if_pos hc0,if_neg hd0];rfl) (fun F ⟨⟨⟨hGl,hR,hA,hS⟩,_⟩,_⟩=>trivial)
  ·
   have hd0:=bne_eq_false_iff_eq.1 hc
   have hcs:∀ s∈ss,XR s.1 s.2=0:=fun s hs=>FK hd0 _ (List.mem_map.2 ⟨s,hs,rfl⟩)
   have hss:∀ s∈ss,N9 (Ys s) 2400:=fun s hs=>by
    have h3:=VC (hcs s hs)
    exact⟨Q7 h3.1,Q7 h3.2.1⟩
   have hxs:∀ x∈ss.map Ys,N9 x 2400:=fun x hx=>by
    obtain ⟨s,hs,rfl⟩:=List.mem_map.1 hx
    exact hss s hs
   have hpa:∀ t∈JM (XG a.2),PW t.2:=oa.pw (by omega)
   have hpk:∀ t∈JM (XG a.2),∀ k∈t.2,0≤k∧k≤12:=fun t ht=>by
    unfold JM at ht
    obtain ⟨x,hx,rfl⟩:=List.mem_map.1 ht
    exact(VI (oa.term x hx)).2.1
   have hwd:∀ t∈JM (XG a.2),t.2.length=n:=fun t ht=>by have:=oa.wide t ht;omega
   have la:(JM (XG a.2)).length≤64:=by unfold JM;rw [List.length_map];exact oa.len
   have hsl2:(ss.map Ys).length=n:=by rw [List.length_map];exact hn
   have hvm:∀ t∈JM (XG a.2),∀ i,i≤n→N9 (Hi (t.1,t.1) (ss.map Ys) t.2 i) 722425:=fun t ht i hi=>by
    have h1:=qc (c:=(t.1,t.1)) ⟨oa.sz t ht,oa.sz t ht⟩ hxs (hpk t ht) i (by omega) (by rw [hwd t ht];exact hi)
    have h2:i*28801≤25*28801:=Nat.mul_le_mul_right _ (by omega)
    exact h1.mono (by omega)
   have hev:∀ l:List Tm,(∀ t∈l,t∈JM (XG a.2))→l.length≤64→N9 (EN (ss.map Ys) l) 50000000:=fun l hl h64=>by
    have h1:=Uj (bs:=ss.map Ys) (B:=722425) l (0,0) 1 ⟨by decide,by decide⟩ fun t ht=>hvm t (hl t ht) _ (Nat.le_of_eq (hwd t (hl t ht)))
    have h3:l.length*722426≤64*722426:=Nat.mul_le_mul_right _ h64
    unfold EN
    exact h1.mono (by omega)
   refine QN<|QD<|QG<|QB ?_
   refine QH rfl (fun w F hF ⟨⟨⟨hGl,hR,hA,hS⟩,_⟩,_⟩=>vJ hF (by omega) (by omega)) (fun x28=>?_)
   refine QH rfl (fun w F hF ⟨⟨⟨⟨hGl,hR,hA,hS⟩,_⟩,_⟩,⟨h28,h28_⟩⟩=>KY hF (x:=x28) (ps:=[]) ⟨by assumption,by assumption⟩ (JF.nil F _ _) (fun p hp=>absurd hp (List.not_mem_nil)) rfl (by omega) ⟨by decide,fun p hp=>absurd hp (List.not_mem_nil)⟩) (fun c29=>?_)
   refine QZ Y2 (fun b8=>?_)
   refine QP (vs:=[_,_,_,_,_,_,_,_]) rfl rfl rfl XL rfl .here (.here (.here (.here (.here (.here (.here (.here (.here .nil)))))))) ⟨rfl,rfl,rfl,rfl,rfl,rfl,rfl,rfl,trivial⟩<|QF<|QD<|QG<|QG<|QB<|QA (QC rfl) ?_
   refine QH rfl (fun w F hF ⟨⟨⟨⟨⟨hGl,hR,hA,hS⟩,_⟩,_⟩,⟨h28,h28_⟩⟩,h29⟩=>Vn hF hGl (a:=a) hR hA ht oa (by omega)) (fun c31=>?_)
   refine JK _ (fun w F hF h=>And.intro h.2.2.2.1 (And.intro h.2.len (And.intro h.2.2.2.2.2 (fun t ht=>(h.2.2.1 t ht).2.2.1)))) (fun h31p=>?_)
   obtain ⟨e31,l31,m31,r31⟩:=h31p
   have hsub:∀ k,∀ t∈JL (c31.2.take k),t∈JM (XG a.2):=fun k t ht=>by
    rw [← e31]
    unfold JL at ht ⊢
    obtain ⟨y,hy,rfl⟩:=List.mem_map.1 ht
    exact List.mem_map_of_mem (List.mem_of_mem_take hy)
   refine QA (Ql rfl J1)<|QA (QC rfl)<|QF<|QD<|Qa ?_
   refine Jz (ι:=dP c31.2.length) [(1,_),(4,_),(8,_),(31,_),(32,_)] (fun i=>[(33,.int .i64 ((i.i:Nat):Int))]) (fun i=>[(b8,.cells (zJ i.x).toArray 138 (0,0)),(b4,.cells [tx [],tx []].toArray 24 (0,0))]) (fun i F=>ZV F i.x (EN (ss.map Ys) (JL (c31.2.take i.i)))) (fun i=>c31.2.length - i.i) (⟨0,c29,Nat.zero_le _⟩) ⟨rfl,rfl,rfl,rfl,rfl,trivial⟩ ⟨rfl,trivial⟩ (List.Sublist.refl _) (fun _ h=>h.1.2) (fun i=>?_)
   simp only [List.cons_append,List.nil_append]
   have hi:=i.le
   have hes:=hev (JL (c31.2.take i.i)) (fun t ht=>hsub _ t ht) (by rw [KI,List.length_take];omega)
   refine QG<|QB<|QA (QU rfl rfl rfl)<|QF<|QD<|QG ?_
   refine QO rfl (fun hc=>?_) (fun hc=>?_)
   ·
    have hlt:i.i<c31.2.length:=by have:=of_decide_eq_true hc;omega
    have htm:=Je hlt
    have htA:(el c31.2 i.i).t∈JM (XG a.2):=e31 ▸ List.mem_map_of_mem htm
    have hw1:=hwd _ htA
    have hpw:=hpa _ htA
    have hl1000:=hpw.2
    have hrl:=r31 _ htm
    have hct:=oa.sz _ htA
    refine QN<|QD<|QG<|Qa<|QG<|QB<|QA (Jc (n:=c31.1.n) (i.i) (fun F ⟨⟨⟨⟨⟨⟨⟨hGl,hR,hA,hS⟩,_⟩,_⟩,⟨h28,h28_⟩⟩,h29⟩,h31⟩,hO⟩=>(h31).1) rfl rfl J1 Jf (by omega))<|QA (ZB (n:=c31.1.n) (vs:=[.int .i64 (el c31.2 (i.i)).x.n.s,.slice (el c31.2 (i.i)).x.n.q (el c31.2 (i.i)).x.n.n (el c31.2 (i.i)).x.n.cap,.int .i64 (el c31.2 (i.i)).x.d.s,.slice (el c31.2 (i.i)).x.d.q (el c31.2 (i.i)).x.d.n (el c31.2 (i.i)).x.d.cap,.slice (el c31.2 (i.i)).r.q (el c31.2 (i.i)).r.n (el c31.2 (i.i)).r.cap]) ((i.i)*5) (fun F ⟨⟨⟨⟨⟨⟨⟨hGl,hR,hA,hS⟩,_⟩,_⟩,⟨h28,h28_⟩⟩,h29⟩,h31⟩,hO⟩=>(h31).1) (by omega) rfl Jf rfl (fun j v hv=>XU (f:=Yl) (l:=c31.2) YS (by omega) hv)) ?_
    refine QZ Ze (fun b10=>?_)
    refine QP (vs:=[_,_,_,_,_]) rfl rfl rfl Jf rfl .here (.here (.here (.here (.here (.here .nil))))) ⟨rfl,rfl,rfl,rfl,rfl,trivial⟩<|QF<|QD<|QG<|QB<|QA (QI rfl YC Qg)<|QA (QL (vs:=[_,_,_,_]) rfl Qg .here (.here (.here (.here (.here .nil)))) rfl) ?_
    refine QH rfl (fun w F hF ⟨⟨⟨⟨⟨⟨⟨hGl,hR,hA,hS⟩,_⟩,_⟩,⟨h28,h28_⟩⟩,h29⟩,h31⟩,hO⟩=>KY hF (x:=(el c31.2 i.i).x) (ps:=[]) ((h31.2.1 _ htm).1) (JF.nil F _ _) (fun p hp=>absurd hp (List.not_mem_nil)) rfl (by omega) ⟨by omega,fun p hp=>absurd hp (List.not_mem_nil)⟩) (fun c39=>?_)
    refine QZ Y2 (fun b11=>?_)
    refine QP (vs:=[_,_,_,_,_,_,_,_]) rfl rfl rfl XL rfl .here (.here (.here (.here (.here (.here (.here (.here (.here .nil)))))))) ⟨rfl,rfl,rfl,rfl,rfl,rfl,rfl,rfl,trivial⟩<|QF<|QD<|QG<|QG<|QB<|QA (QI rfl ZE Qs)<|QA (Qn rfl Qs (.there .here) (.skip (.skip (.skip (.skip (.here .nil))))))<|QA (Ql rfl Qe)<|QA (QC rfl)<|QF<|QD<|Qa ?_
    refine Jz (ι:=dQ (el c31.2 i.i).t.2.length) [(1,_),(4,_),(8,_),(11,_),(31,_),(32,_),(33,_),(41,_),(42,_)] (fun i2=>[(43,.int .i64 ((i2.j:Nat):Int))]) (fun i2=>[(b11,.cells (zJ i2.y).toArray 138 (0,0)),(b10,.cells (Yl (el c31.2 i.i)).toArray 165 (0,0)),(b8,.cells (zJ i.x).toArray 138 (0,0)),(b4,.cells [tx [],tx []].toArray 24 (0,0))]) (fun i2 F=>ZV F i2.y (Hi ((el c31.2 i.i).t.1,(el c31.2 i.i).t.1) (ss.map Ys) (el c31.2 i.i).t.2 i2.j)) (fun i2=>(el c31.2 i.i).t.2.length - i2.j) (⟨0,c39,Nat.zero_le _⟩) ⟨rfl,rfl,rfl,rfl,rfl,rfl,rfl,rfl,rfl,trivial⟩ ⟨rfl,trivial⟩ (List.Sublist.refl _) (fun _ h=>h.2) (fun i2=>?_)
    simp only [List.cons_append,List.nil_append]
    have hj:=i2.le
    have hvs:=hvm _ htA i2.j (by omega)
    refine QG<|QB<|QA (QU rfl rfl rfl)<|QF<|QD<|QG ?_
    refine QO rfl (fun hc=>?_) (fun hc=>?_)
    ·
     have hlt2:i2.j<(el c31.2 i.i).t.2.length:=by have:=of_decide_eq_true hc;omega
     have hls:i2.j<ss.length:=by omega
     have hem:=Je hls
     have hck:=VC (hcs _ hem)
     have hlh:=hl _ hem
     have hbx:=hss _ hem
     have hk12:0≤Qf (el c31.2 i.i).t.2 i2.j∧Qf (el c31.2 i.i).t.2 i2.j≤12:=by rw [X9 hlt2];exact hpk _ htA _ (Je hlt2)
     have hpz:=Ti hbx hk12.2
     refine QN<|QD<|QG<|Qa<|QG<|QB<|QA (QC rfl)<|QA (Jc (n:=(el c31.2 i.i).r.n) (i2.j) (fun F ⟨⟨⟨⟨⟨⟨⟨⟨⟨hGl,hR,hA,hS⟩,_⟩,_⟩,⟨h28,h28_⟩⟩,h29⟩,h31⟩,hO⟩,h39⟩,hY⟩=>((h31.2.1 _ htm).2).1) rfl rfl Qe Qu (by omega))<|QA (Ji (n:=(el c31.2 i.i).r.n) ((i2.j)*1) (fun F ⟨⟨⟨⟨⟨⟨⟨⟨⟨hGl,hR,hA,hS⟩,_⟩,_⟩,⟨h28,h28_⟩⟩,h29⟩,h31⟩,hO⟩,h39⟩,hY⟩=>((h31.2.1 _ htm).2).1) (by omega) rfl Qu (JR (o:=(el c31.2 i.i).t.2) (by omega)))<|QA (QE rfl)<|QA (QE rfl)<|QF<|QD<|QG<|QB<|QA (QC rfl)<|QA (QU rfl rfl rfl)<|QF<|QD ?_
     refine QO rfl (fun hc=>?_) (fun hc=>?_)
     ·
      have hpos:Qf (el c31.2 i.i).t.2 i2.j>0:=of_decide_eq_true hc
      refine Xr 9 (List.Sublist.refl _) mixed (by kernel_rfl) (by kernel_rfl) ?_
      simp only [List.take_succ_cons,List.take_zero,List.drop_succ_cons,List.drop_zero]
      refine QM (QL (vs:=[_,_,_,_,_,_,_,_]) rfl XL .here (.here (.here (.here (.here (.here (.here (.here (.here .nil)))))))) rfl)<|QM (QC rfl)<|QM (QC rfl)<|QM (Jc (n:=n) (i2.j) (fun F ⟨⟨⟨⟨⟨⟨⟨⟨⟨hGl,hR,hA,hS⟩,_⟩,_⟩,⟨h28,h28_⟩⟩,h29⟩,h31⟩,hO⟩,h39⟩,hY⟩=>hS) rfl rfl TK Jw (by omega))<|QM (ZB (n:=n) (vs:=[tx (el ss (i2.j)).1,tx (el ss (i2.j)).2]) ((i2.j)*2) (fun F ⟨⟨⟨⟨⟨⟨⟨⟨⟨hGl,hR,hA,hS⟩,_⟩,_⟩,⟨h28,h28_⟩⟩,h29⟩,h31⟩,hO⟩,h39⟩,hY⟩=>hS) (by omega) rfl Jw rfl (fun j v hv=>XU (f:=TI) (l:=ss) (fun _=>rfl) (by omega) hv)) ?_
      refine Qb rfl (fun w F hF ⟨⟨⟨⟨⟨⟨⟨⟨⟨hGl,hR,hA,hS⟩,_⟩,_⟩,⟨h28,h28_⟩⟩,h29⟩,h31⟩,hO⟩,h39⟩,hY⟩=>NG hF hGl hck.1 hck.2.1 hlh) (fun c55=>?_)
      refine QM (QC rfl) ?_
      refine Qb rfl (fun w F hF ⟨⟨⟨⟨⟨⟨⟨⟨⟨⟨hGl,hR,hA,hS⟩,_⟩,_⟩,⟨h28,h28_⟩⟩,h29⟩,h31⟩,hO⟩,h39⟩,hY⟩,h55⟩=>TH (x:=c55) (a:=Ys (el ss i2.j)) (n:=Qf (el c31.2 i.i).t.2 i2.j) hF h55 hk12 ⟨Nat.le_trans hbx.1 (by decide),Nat.le_trans hbx.2 (by decide)⟩) (fun c57=>?_)
      refine Qb rfl (fun w F hF ⟨⟨⟨⟨⟨⟨⟨⟨⟨⟨⟨hGl,hR,hA,hS⟩,_⟩,_⟩,⟨h28,h28_⟩⟩,h29⟩,h31⟩,hO⟩,h39⟩,hY⟩,h55⟩,h57⟩=>TG (x:=i2.y) (y:=c57) hF hY h57 ⟨Nat.le_trans hvs.1 (by omega),Nat.le_trans hvs.2 (by omega)⟩ ⟨Nat.le_trans hpz.1 (by decide),Nat.le_trans hpz.2 (by decide)⟩) (fun c58=>?_)
      refine K9<|QP (vs:=[_,_,_,_,_,_,_,_]) rfl rfl rfl XL rfl .here (.here (.here (.here (.here (.here (.here (.here (.here .nil)))))))) ⟨rfl,rfl,rfl,rfl,rfl,rfl,rfl,rfl,trivial⟩<|QF<|Qm<|QD<|QB<|QA (Qw rfl rfl (by omega))<|QA (QC rfl)<|QF ?_
      exact Qo (⟨i2.j+1,c58,hlt2⟩) (by show(el c31.2 i.i).t.2.length - (i2.j+1)<(el c31.2 i.i).t.2.length - i2.j;omega) ⟨rfl,rfl,rfl,rfl,rfl,rfl,rfl,rfl,rfl,rfl,trivial⟩ (List.Sublist.refl _) (fun F ⟨⟨⟨⟨hB,_⟩,_⟩,_⟩,h58⟩=>⟨hB,by show ZV F c58 (Hi _ (ss.map Ys) _ (i2.j+1));rw [DR,if_pos hpos,Li hls];exact h58⟩)
     ·
      have hpos:¬ Qf (el c31.2 i.i).t.2 i2.j>0:=of_decide_eq_false hc
      refine QN<|Qm<|QD<|QB<|QA (Qw rfl rfl (by omega))<|QA (QC rfl)<|QF ?_
      exact Qo (⟨i2.j+1,i2.y,hlt2⟩) (by show(el c31.2 i.i).t.2.length - (i2.j+1)<(el c31.2 i.i).t.2.length - i2.j;omega) ⟨rfl,rfl,rfl,rfl,rfl,rfl,rfl,rfl,rfl,rfl,trivial⟩ (List.Sublist.refl _) (fun F ⟨hB,hY⟩=>⟨hB,by show ZV F i2.y (Hi _ (ss.map Ys) _ (i2.j+1));rw [DR,if_neg hpos];exact hY⟩)
    ·
     have hge2:i2.j=(el c31.2 i.i).t.2.length:=by have:=of_decide_eq_false hc;omega
     refine Q6 ?_
     repeat (first | refine Qc ?_ | refine QX (by rfl) ?_)
     refine Qd<|QD<|QB<|QA (QL (vs:=[_,_,_,_,_,_,_,_]) rfl XL (.there (.there .here)) (.here (.here (.here (.here (.here (.here (.here (.here .nil)))))))) rfl)<|QA (QL (vs:=[_,_,_,_,_,_,_,_]) rfl XL .here (.here (.here (.here (.here (.here (.here (.here (.here .nil)))))))) rfl) ?_
     refine QH rfl (fun w F hF ⟨⟨⟨⟨⟨⟨⟨⟨⟨hGl,hR,hA,hS⟩,_⟩,_⟩,⟨h28,h28_⟩⟩,h29⟩,h31⟩,hO⟩,h39⟩,hY⟩=>qk (x:=i.x) (y:=i2.y) hF hO hY ⟨Nat.le_trans hes.1 (by decide),Nat.le_trans hes.2 (by decide)⟩ ⟨Nat.le_trans hvs.1 (by omega),Nat.le_trans hvs.2 (by omega)⟩) (fun c62=>?_)
     refine QP (vs:=[_,_,_,_,_,_,_,_]) rfl rfl rfl XL rfl (.there (.there .here)) (.here (.here (.here (.here (.here (.here (.here (.here .nil)))))))) ⟨rfl,rfl,rfl,rfl,rfl,rfl,rfl,rfl,trivial⟩<|QF<|Qm<|QD<|QB<|QA (Qw rfl rfl (by omega))<|QA (QC rfl)<|QF ?_
     exact Qo (⟨i.i+1,c62,hlt⟩) (by show c31.2.length - (i.i+1)<c31.2.length - i.i;omega) ⟨rfl,rfl,rfl,rfl,rfl,rfl,trivial⟩ (.cons _ (.cons _ (List.Sublist.refl _))) (fun F ⟨⟨⟨⟨hB,_⟩,_⟩,_⟩,h62⟩=>⟨hB,by show ZV F c62 (EN _ (JL (c31.2.take (i.i+1))));rw [FO hlt,← hge2];exact h62⟩)
   ·
    have hge:i.i=c31.2.length:=by have:=of_decide_eq_false hc;omega
    refine Q6 ?_
    repeat (first | refine Qc ?_ | refine QX (by rfl) ?_)
    refine Qd<|QD<|QG<|QB<|QA (QL (vs:=[_,_,_,_,_,_,_,_]) rfl XL .here (.here (.here (.here (.here (.here (.here (.here (.here .nil)))))))) rfl) ?_
    refine QH rfl (fun w F hF ⟨⟨⟨⟨⟨⟨⟨hGl,hR,hA,hS⟩,_⟩,_⟩,⟨h28,h28_⟩⟩,h29⟩,h31⟩,hO⟩=>E4 hF hGl (x:=i.x) hO ⟨Nat.le_trans hes.1 (by decide),Nat.le_trans hes.2 (by decide)⟩) (fun _=>?_)
    rw [hge,List.take_length,e31]
    refine QA (QK rfl rfl)<|QA (QK rfl rfl)<|QP (vs:=[_,_]) rfl rfl rfl Jw rfl (.there .here) (.here (.here .nil)) ⟨rfl,rfl,trivial⟩<|QA (QE rfl)<|QF<|QD<|QS ?_
    exact JH (()) rfl (.Ja (c:=[_,_]) rfl Jw (.there .here) (.tmp rfl .nil)) (by unfold yL;rw [hn,if_pos hc0,if_pos hd0];rfl) (fun F ⟨⟨⟨⟨⟨⟨⟨⟨hGl,hR,hA,hS⟩,_⟩,_⟩,⟨h28,h28_⟩⟩,h29⟩,h31⟩,hO⟩,_⟩=>trivial)
end
section
open Go.RowKit Ig
def Y0 (f:List UInt8) (b:Nat) (k:List Int):GX:=⟨f,⟨some ⟨b,0,none⟩,k.length,k.length⟩,k⟩
def NP (b:Nat) (ts:List GX):VF:=(⟨some ⟨b,0,none⟩,ts.length,ts.length⟩,ts)
theorem J6 {F:Gs} {b:Nat} {k:List Int} {T:TypeId} (h:F b=some ((k.map Qz).toArray,T)):JP F ⟨some ⟨b,0,none⟩,k.length,k.length⟩ k:=⟨JF.of h (by simp),rfl,Nat.le_refl _⟩
theorem Cl {b:Nat} {ts:List GX} (h:∀ t∈ts,t.f.length≤1000000∧t.k.length≤1000000) (hl:ts.length≤1000000):Vj (NP b ts):=⟨rfl,h,hl⟩
theorem Vh.vS {F:Gs} {s:Sr} {ts:List GX} {p:Pt} (h:Vh F s ts p) (hp:∀ e∈p,e.1.length≤1000000∧e.2.length≤1000000) (hl:p.length≤1000000):Vj (s,ts):=by
 refine⟨h.2.2.2.2,fun t ht=>?_,?_⟩
 ·have:(t.f,t.k)∈XG ts:=List.mem_map.2 ⟨t,ht,rfl⟩
  rw [h.2.2.1] at this
  exact hp _ this
 ·have:=congrArg List.length h.2.2.1
  simp only [XG,List.length_map] at this
  show ts.length≤_
  omega
theorem T0 {w:World} {F:Gs} {a b:VF} {v:Int} {P Q R:Pt} (hF:Fits F w) (hGl:JC F) (hA:YO F [a,b]) (ht:∀ e∈[a,b],Vj e) (hP:XG a.2=P) (hQ:XG b.2=Q) (hc:Zo v=0) (h1:X4 P v=0) (h2:X4 Q v=0) (h3:Da (XH (Jh (JM P) (JM Q)))=0) (h4:PK (XH (Jh (JM P) (JM Q)))=R) :
  QT Tryz.prog 40 [a.1.v,b.1.v,.int .i64 v] w F (fun(c:VF)=>.tuple #[c.1.v,.int .i64 0]) (fun c F=>Vh F c.1 c.2 R):=by
 have h:=LQ hF hGl hA ht (v:=v)
 have e:WK [a,b] v=0:=by simp [WK,hc,hP,hQ,h1,h2,Qj]
 rw [vH,vG,if_pos e,if_pos e,hP,hQ,h3,h4] at h
 exact h
theorem Nu {w:World} {F:Gs} {a:VF} {n v:Int} {P R:Pt} (hF:Fits F w) (hGl:JC F) (hA:YO F [a]) (ht:∀ e∈[a],Vj e) (hP:XG a.2=P) (hc:Zo n=0) (h1:X4 P n=0) (hv:vE v n=0) (h3:Da (XH (Ki v.toNat (JM P)))=0) (h4:PK (XH (Ki v.toNat (JM P)))=R) :
  QT Tryz.prog 41 [a.1.v,.int .i64 n,.int .i64 v] w F (fun(c:VF)=>.tuple #[c.1.v,.int .i64 0]) (fun c F=>Vh F c.1 c.2 R):=by
 have h:=Sc hF hGl hA ht (n:=n) (v:=v)
 have e:Qj [WK [a] n,vE v n]=0:=by simp [WK,hc,hP,h1,hv,Qj]
 rw [yw,yv,if_pos e,if_pos e,hP,h3,h4] at h
 exact h
theorem Uw {w:World} {F:Gs} {a:VF} {q:Option Addr} {n cap:Nat} {ls:List VF} {v u:Int} {P R:Pt} {Ws:List Pt} (hF:Fits F w) (hGl:JC F) (hA:YO F [a]) (hta:Vj a) (hR:JF F q n 1 (ls.map fun e=>e.1.v)) (hL:YO F ls) (hn:ls.length=n) (ht:∀ e∈ls,Vj e) (hP:XG a.2=P) (hW:(ls.map fun e=>XG e.2)=Ws)
  (hv:0≤v∧v≤24) (hu:0≤u∧u≤24) (ha:X4 P v=0) (hnv:(n:Int)=v+1) (hall:Qj (Ws.map fun e=>X4 e u)=0) (ho:Ir (Ws.map JM) (u+1).toNat (JM P)) (h3:Da (Wj (Ws.map JM) (u+1).toNat (JM P))=0) (h4:PK (Wj (Ws.map JM) (u+1).toNat (JM P))=R) :
  QT Tryz.prog 44 [a.1.v,.int .i64 v,.slice q n cap,.int .i64 u] w F (fun(c:VF)=>.tuple #[c.1.v,.int .i64 0]) (fun c F=>Vh F c.1 c.2 R):=by
 have e1:Fl ls=Ws.map JM:=by rw [← hW,List.map_map];rfl
 have e2:WK ls u=0:=by
  unfold WK
  rw [if_pos ((VB u).2 hu),← hall,← hW,List.map_map];rfl
 have h:=Lr hF hGl hA hta hR hL hn ht hv hu (by rw [hP];exact ha) hnv e2 (by rw [e1,hP];exact ho) (q:=q) (cap:=cap)
 rw [e1,hP,h3,h4] at h
 exact h
end
section
open Go.RowKit Ig
structure Bd (p:List Tm) (k c z:Nat) (d:Int):Prop where
 can:Canon p
 wd:Y1 k p
 nn:∀ t∈p,(∀ x∈t.2,0≤x)∧t.2.sum≤d
 ln:p.length≤c
 sz:∀ t∈p,JX t.1≤z
theorem Rk:∀ {l:List Int},(∀ x∈l,0≤x)→0≤l.sum
 |[],_=>Int.le_refl _
 |a::l,h=>by
  have h1:=Rk (l:=l) fun x hx=>h x (List.mem_cons_of_mem _ hx)
  have h2:=h a List.mem_cons_self
  rw [List.sum_cons];omega
theorem Pn:∀ k,(List.replicate k (0:Int)).sum=0
 |0=>rfl
 |k+1=>by rw [List.replicate_succ,List.sum_cons,Pn k];rfl
theorem A2 {l:List Int} (h:∀ x∈l,0≤x):∀ x∈l,x≤l.sum:=by
 induction l with
 |nil=>intro x hx;cases hx
 |cons a l ih =>
  intro x hx
  have h0:0≤l.sum:=Rk (fun y hy=>h y (List.mem_cons_of_mem _ hy))
  have ha:=h a List.mem_cons_self
  rw [List.sum_cons]
  rcases List.mem_cons.1 hx with rfl | hx
  ·omega
  ·have:=ih (fun y hy=>h y (List.mem_cons_of_mem _ hy)) x hx;omega
theorem Bd.pw {p:List Tm} {k c z:Nat} {d:Int} (h:Bd p k c z d) (hk:k≤1000) (hd:d≤1000000):∀ t∈p,PW t.2:=fun t ht=>by
 obtain ⟨h1,h2⟩:=h.nn t ht
 exact⟨fun x hx=>⟨h1 x hx,by have:=A2 h1 x hx;omega⟩,by rw [h.wd t ht];exact hk⟩
theorem Bd.mono {p:List Tm} {k c z c' z':Nat} {d d':Int} (h:Bd p k c z d) (hc:c≤c') (hz:z≤z') (hd:d≤d'):Bd p k c' z' d' :=
 ⟨h.can,h.wd,fun t ht=>⟨(h.nn t ht).1,Int.le_trans (h.nn t ht).2 hd⟩,Nat.le_trans h.ln hc,fun t ht=>Nat.le_trans (h.sz t ht) hz⟩
theorem GM {q:List Tm} (hq:Canon q) {z:Nat} (hz:∀ t∈q,JX t.1≤z) (h1:1≤z) (x:List Int):JX (Jl q x)≤z:=by
 by_cases h:∃ t∈q,t.2=x
 ·obtain ⟨t,ht,rfl⟩:=h
  rw [Wl hq ht];exact hz t ht
 ·rw [KE fun t ht e=>h ⟨t,ht,e⟩]
  exact Nat.le_trans (by decide) h1
theorem DB {n z1 z2:Nat} {q:List Tm} (hq:Canon q) (hwq:Y1 n q) (hz:∀ t∈q,JX t.1≤z2) (h1:1≤z2) (x:List Int):∀ (p:List Tm),Y1 n p→(∀ t∈p,JX t.1≤z1)→JX (Jl (Jh p q) x)≤p.length*(z1+z2+1)+1
 |[],_,_=>by show JX (0:Rat)≤_;exact Nat.le_trans (by decide) (Nat.le_add_left 1 _)
 |s::p,hw,hs=>by
  have ih:=DB hq hwq hz h1 x p hw.tail fun t ht=>hs t (List.mem_cons_of_mem _ ht)
  rw [WY,KW,Ux (hw s List.mem_cons_self) hwq,List.length_cons,Nat.add_mul,Nat.one_mul]
  split
  ·have h2:=Yr (s.1*Jl q (AU x s.2)) (Jl (Jh p q) x)
   have h3:=J2 s.1 (Jl q (AU x s.2))
   have h4:=GM hq hz h1 (AU x s.2)
   have h5:=hs s List.mem_cons_self
   omega
  ·rw [Rat.zero_add];omega
theorem Ij {a b:List Int} (h:a.length=b.length) (ha:∀ x∈a,0≤x) (hb:∀ x∈b,0≤x):(∀ x∈Xq a b,0≤x)∧(Xq a b).sum=a.sum+b.sum:=by
 induction a generalizing b with
 |nil=>cases b with
  |nil=>exact⟨fun x hx=>(by cases hx),rfl⟩
  |cons y b=>simp at h
 |cons x a ih=>cases b with
  |nil=>simp at h
  |cons y b =>
   have:=ih (b:=b) (by simpa using h) (fun x hx=>ha x (List.mem_cons_of_mem _ hx)) (fun x hx=>hb x (List.mem_cons_of_mem _ hx))
   have h1:=ha x List.mem_cons_self
   have h2:=hb y List.mem_cons_self
   show(∀ z∈(x+y)::Xq a b,0≤z)∧((x+y)::Xq a b).sum=_
   refine⟨fun z hz=>?_,?_⟩
   ·rcases List.mem_cons.1 hz with rfl | hz
    ·omega
    ·exact this.1 z hz
   ·rw [List.sum_cons,this.2,List.sum_cons,List.sum_cons];omega
theorem Bd.zc {p q:List Tm} {k c1 z1 c2 z2:Nat} {d1 d2:Int} (hp:Bd p k c1 z1 d1) (hq:Bd q k c2 z2 d2):∀ t∈Jh p q,t.2.length=k∧(∀ x∈t.2,0≤x)∧t.2.sum≤d1+d2:=fun t ht=>by
 obtain ⟨s,hs,u,hu,e⟩:=RB ht
 have h1:=hp.wd s hs
 have h2:=hq.wd u hu
 obtain ⟨h3,h4⟩:=Ij (by omega) (hp.nn s hs).1 (hq.nn u hu).1
 rw [e]
 have h5:=(hp.nn s hs).2
 have h6:=(hq.nn u hu).2
 exact⟨by rw [KZ (by omega)];exact h1,h3,by omega⟩
theorem Bd.mul {p q:List Tm} {k c1 z1 c2 z2:Nat} {d1 d2:Int} (hp:Bd p k c1 z1 d1) (hq:Bd q k c2 z2 d2) (h2:1≤z2):Bd (XH (Jh p q)) k (c1*c2) (c1*(z1+z2+1)+1) (d1+d2) where
 can:=Yj _
 wd:=(hp.wd.Jh hq.wd).XH
 nn:=fun t ht=>by
  obtain ⟨y,hy,e⟩:=Di ht
  rw [← e];exact(hp.zc hq y hy).2
 ln:=by
  have h1:=WG (Jh p q)
  rw [WX] at h1
  exact Nat.le_trans h1 (Nat.mul_le_mul hp.ln hq.ln)
 sz:=fun t ht=>by
  rw [← Wl (Yj _) ht,Wh]
  have h1:=DB hq.can hq.wd hq.sz h2 t.2 p hp.wd hp.sz
  have h3:p.length*(z1+z2+1)≤c1*(z1+z2+1):=Nat.mul_le_mul_right _ hp.ln
  omega
theorem Bd.Zj {p:List Tm} {k c z:Nat} {d:Int} (h:Bd p k c z d):YtknegjaeoffnbaaGreatDoor.Zj p≤c*(z+1):=Nat.le_trans (DW h.sz) (Nat.mul_le_mul_right _ h.ln)
theorem Bd.xo {p q:List Tm} {k c1 z1 c2 z2:Nat} {d1 d2:Int} (hp:Bd p k c1 z1 d1) (hq:Bd q k c2 z2 d2) (hk:k≤1000) (h1:c1≤10000) (h2:c2≤10000) (hd:d1+d2≤1000000) (hd1:d1≤1000000) (hd2:d2≤1000000) (hs1:c1*(z1+1)≤20000000) (hs2:c2*(z2+1)≤20000000) (hs:c1*c2*(z1+z2+1)≤40000000):DJ p q k where
 wp:=hp.wd
 wq:=hq.wd
 lp:=Nat.le_trans hp.ln h1
 lq:=Nat.le_trans hq.ln h2
 pp:=hp.pw hk hd1
 pq:=hq.pw hk hd2
 pm:=fun s hs t ht=>by
  have h1:=hp.wd s hs
  have h2:=hq.wd t ht
  obtain ⟨h3,h4⟩:=Ij (by omega) (hp.nn s hs).1 (hq.nn t ht).1
  have h5:=(hp.nn s hs).2
  have h6:=(hq.nn t ht).2
  exact⟨fun x hx=>⟨h3 x hx,by have:=A2 h3 x hx;omega⟩,by rw [KZ (by omega),h1];exact hk⟩
 zp:=Nat.le_trans hp.Zj hs1
 zq:=Nat.le_trans hq.Zj hs2
 zm:=by
  have h3:=DW (l:=Jh p q) (k:=z1+z2) fun t ht=>by
   unfold Jh XZ at ht
   obtain ⟨s,hs,h1⟩:=List.mem_flatMap.1 ht
   obtain ⟨u,hu,rfl⟩:=List.mem_map.1 h1
   have:=J2 s.1 u.1
   have:=hp.sz s hs
   have:=hq.sz u hu
   show JX (s.1*u.1)≤_
   omega
  rw [WX] at h3
  have h4:p.length*q.length≤c1*c2:=Nat.mul_le_mul hp.ln hq.ln
  have h5:p.length*q.length*(z1+z2+1)≤c1*c2*(z1+z2+1):=Nat.mul_le_mul_right _ h4
  omega
theorem Bd.const (a:Rat) (k:Nat):Bd (VW a k) k 1 (JX a) 0:=by
 unfold VW
 by_cases h:a=0
 ·rw [if_pos h]
  exact⟨Canon.nil,fun _ h=>(by cases h),fun _ h=>(by cases h),Nat.zero_le _,fun _ h=>(by cases h)⟩
 ·rw [if_neg h]
  refine⟨⟨by simp,fun t ht=>by rw [List.mem_singleton.1 ht];exact h⟩,fun t ht=>by rw [List.mem_singleton.1 ht];simp,fun t ht=>?_,by simp,fun t ht=>by rw [List.mem_singleton.1 ht];exact Nat.le_refl _⟩
  rw [List.mem_singleton.1 ht]
  refine⟨fun x hx=>?_,?_⟩
  ·rw [List.eq_of_mem_replicate hx];exact Int.le_refl _
  ·show(List.replicate k (0:Int)).sum≤0
   rw [Pn];exact Int.le_refl _
theorem N6:∀ (a:List Int),Xq a (List.replicate a.length 0)=a
 |[]=>rfl
 |x::a=>by
  show(x+0)::Xq a (List.replicate a.length 0)=_
  rw [N6 a,Int.add_zero]
theorem CD {p:List Tm} {k:Nat} (hw:Y1 k p):Jh p (VW 1 k)=p:=by
 rw [show VW 1 k=[(1,List.replicate k 0)] from by unfold VW;rw [if_neg (by decide)]]
 induction p with
 |nil=>rfl
 |cons t p ih =>
  rw [WY,ih hw.tail]
  have:=hw t List.mem_cons_self
  show [(t.1*1,Xq t.2 (List.replicate k 0))]++p=_
  rw [Rat.mul_one,← this,N6];rfl
theorem Bd.pow {w:List Tm} {k z:Nat} (h:Bd w k 3 z 2) (hz:1≤z):Bd (WZ w k 0) k 1 1 0∧Bd (WZ w k 1) k 3 (z+4) 2∧Bd (WZ w k 2) k 9 (6*z+20) 4:=by
 have h0:Bd (WZ w k 0) k 1 1 0:=(Bd.const 1 k).mono (Nat.le_refl _) (by decide) (Int.le_refl _)
 have h1:Bd (WZ w k 1) k 3 (z+4) 2:=(h0.mul h hz).mono (by omega) (by omega) (by omega)
 exact⟨h0,h1,(h1.mul h hz).mono (by omega) (by omega) (by omega)⟩
end
section
open Go.RowKit Ig
def Se:Nat→Nat
 |0=>1
 |1=>3
 |_=>9
def I1 (z:Nat):Nat→Nat
 |0=>z
 |1=>2*z+6
 |_=>9*z+34
theorem W6 {l:List Int} (h:∀ x∈l,0≤x) (j:Nat):0≤(l.take j).sum∧(l.take j).sum≤l.sum:=by
 have h1:(l.take j).sum+(l.drop j).sum=l.sum:=by rw [← List.sum_append,List.take_append_drop]
 have h2:=Rk (l:=l.take j) fun x hx=>h x (List.mem_of_mem_take hx)
 have h3:=Rk (l:=l.drop j) fun x hx=>h x (List.mem_of_mem_drop hx)
 omega
section
variable {c:Rat} {ws:List (List Tm)} {ks:List Int} {k z:Nat}
theorem Ia (hn:∀ x∈ks,0≤x) (h2:ks.sum≤2) (hw:∀ i,i<ks.length→Bd (el ws i) k 3 z 2) (hc:JX c≤z) (hz:1≤z):∀ j,j≤ks.length→Bd (Dt c ws ks k j) k (Se (ks.take j).sum.toNat) (I1 z (ks.take j).sum.toNat) (2*(ks.take j).sum)
 |0,_=>(Bd.const c k).mono (Nat.le_refl _) hc (Int.le_refl _)
 |j+1,hj=>by
  have ih:=Ia hn h2 hw hc hz j (by omega)
  obtain ⟨p0,p1,p2⟩:=(hw j (by omega)).pow hz
  have hs:=W6 hn j
  have hs1:=W6 hn (j+1)
  have hst:=Mw (l:=ks) (i:=j) (by omega)
  have hd:0≤Qf ks j:=by rw [X9 (by omega)];exact hn _ (Je (by omega))
  obtain ⟨s,hse⟩:∃ s:Nat,(ks.take j).sum=(s:Int):=⟨_,(Int.toNat_of_nonneg hs.1).symm⟩
  obtain ⟨d,hde⟩:∃ d:Nat,Qf ks j=(d:Int):=⟨_,(Int.toNat_of_nonneg hd).symm⟩
  rw [hse] at ih hst
  rw [hst,hde]
  have hsd:s+d≤2:=by omega
  have e1:((s:Int)+(d:Int)).toNat=s+d:=by omega
  rw [e1]
  rw [show((s:Int)).toNat=s from rfl] at ih
  show Bd (XH (Jh (Dt c ws ks k j) (WZ (el ws j) k (Qf ks j).toNat))) k _ _ _
  rw [hde,show((d:Int)).toNat=d from rfl]
  match s,d,hsd with
  |s,0,_ =>
   rw [show WZ (el ws j) k 0=VW 1 k from rfl,CD ih.wd,GH ih.can]
   exact ih.mono (Nat.le_refl _) (Nat.le_refl _) (by omega)
  |0,1,_=>exact(ih.mul p1 (by omega)).mono (by simp [Se]) (by simp [Se,I1];omega) (by omega)
  |1,1,_=>exact(ih.mul p1 (by omega)).mono (by simp [Se]) (by simp [Se,I1];omega) (by omega)
  |0,2,_=>exact(ih.mul p2 (by omega)).mono (by simp [Se]) (by simp [Se,I1];omega) (by omega)
theorem yO (s:Nat):Se s≤9:=by unfold Se;split<;>omega
theorem zK {z:Nat} (s:Nat):I1 z s≤9*z+34:=by unfold I1;split<;>omega
theorem Ny (hn:∀ x∈ks,0≤x) (h2:ks.sum≤2) (hw:∀ i,i<ks.length→Bd (el ws i) k 3 z 2) (hc:JX c≤z) (hz:1≤z) {j:Nat} (hj:j≤ks.length):Bd (Dt c ws ks k j) k 9 (9*z+34) 4 :=
 (Ia hn h2 hw hc hz j hj).mono (yO _) (zK _) (by have:=W6 hn j;omega)
theorem ID {w:List Tm} (h:Bd w k 3 z 2) (hz:1≤z) {d:Nat} (hd:d≤2):Bd (WZ w k d) k 9 (6*z+20) 4:=by
 obtain ⟨p0,p1,p2⟩:=h.pow hz
 match d,hd with
 |0,_=>exact p0.mono (by omega) (by omega) (by omega)
 |1,_=>exact p1.mono (by omega) (by omega) (by omega)
 |2,_=>exact p2
end
theorem Bd.add {p q:List Tm} {k c1 z1 c2 z2:Nat} {d:Int} (hp:Bd p k c1 z1 d) (hq:Bd q k c2 z2 d) (h1:1≤z1) (h2:1≤z2):Bd (XH (p++q)) k (c1+c2) (z1+z2+1) d where
 can:=Yj _
 wd:=(hp.wd.append hq.wd).XH
 nn:=fun t ht=>by
  obtain ⟨y,hy,e⟩:=Di ht
  rw [← e]
  rcases List.mem_append.1 hy with hy | hy
  ·exact hp.nn y hy
  ·exact hq.nn y hy
 ln:=by
  have h3:=WG (p++q)
  rw [List.length_append] at h3
  have:=hp.ln
  have:=hq.ln
  omega
 sz:=fun t ht=>by
  rw [← Wl (Yj _) ht,Wh,KW]
  have h3:=Yr (Jl p t.2) (Jl q t.2)
  have h4:=GM hp.can hp.sz h1 t.2
  have h5:=GM hq.can hq.sz h2 t.2
  omega
structure ko (ws:List (List Tm)) (k z:Nat) (l:List Tm):Prop where
 ln:l.length≤6
 nn:∀ t∈l,(∀ x∈t.2,0≤x)∧t.2.sum≤2
 wl:∀ t∈l,t.2.length≤ws.length
 sz:∀ t∈l,JX t.1≤z
 ws:∀ w∈ws,Bd w k 3 z 2
theorem IY {ws:List (List Tm)} {k z:Nat} {l:List Tm} (h:ko ws k z l) (hz:1≤z):∀ i,i≤l.length→Bd (Wj ws k (l.take i)) k (9*i) (1+i*(9*z+35)) 4
 |0,_=>⟨Canon.nil,fun _ h=>(by cases h),fun _ h=>(by cases h),Nat.zero_le _,fun _ h=>(by cases h)⟩
 |i+1,hi=>by
  have ih:=IY h hz i (by omega)
  have hm:=Je (show i<l.length by omega)
  have hn:=h.nn _ hm
  have e:Wj ws k (l.take (i+1))=XH (Wj ws k (l.take i)++Dt (el l i).1 ws (el l i).2 k (el l i).2.length):=by
   unfold Wj;rw [ZL (show i<l.length by omega),List.foldl_append];rfl
  rw [e]
  have hw:∀ j,j<(el l i).2.length→Bd (el ws j) k 3 z 2:=fun j hj=>h.ws _ (Je (Nat.lt_of_lt_of_le hj (h.wl _ hm)))
  have ht:=Ny (k:=k) hn.1 hn.2 hw (h.sz _ hm) hz (Nat.le_refl _)
  exact(ih.add ht (by omega) (by omega)).mono (by omega) (by rw [Nat.add_mul];omega) (by omega)
theorem yP {ws:List (List Tm)} {k z:Nat} {l:List Tm} (h:ko ws k z l) (hz:1≤z) (hz2:z≤2400) (hk:k≤1000):Ir ws k l:=by
 have hp:∀ i,i≤l.length→Bd (Wj ws k (l.take i)) k 54 130000 4:=fun i hi=>by
  have h1:=IY h hz i hi
  have h2:=h.ln
  have h3:i*(9*z+35)≤6*21635:=Nat.mul_le_mul (by omega) (by omega)
  exact h1.mono (by omega) (by omega) (Int.le_refl _)
 have hw:∀ t∈l,∀ j,j<t.2.length→Bd (el ws j) k 3 z 2:=fun t ht j hj=>h.ws _ (Je (Nat.lt_of_lt_of_le hj (h.wl _ ht)))
 have hfull:=hp l.length (Nat.le_refl _)
 rw [List.take_length] at hfull
 refine⟨fun t ht j hj=>?_,fun i hi=>?_,hfull.pw hk (by omega),fun t ht=>Nat.le_trans (hfull.sz t ht) (by omega),Nat.le_trans hfull.ln (by omega)⟩
 ·have hn:=h.nn t ht
  have hb:=hw t ht j hj
  have hd:0≤Qf t.2 j∧Qf t.2 j≤2:=by
   rw [X9 hj]
   have:=A2 hn.1 _ (Je hj)
   exact⟨hn.1 _ (Je hj),by omega⟩
  have hm:=Ny (k:=k) hn.1 hn.2 (hw t ht) (h.sz t ht) hz (Nat.le_of_lt hj)
  have hpw:=ID hb hz (d:=(Qf t.2 j).toNat) (by omega)
  refine⟨hm.xo hpw hk (by omega) (by omega) (by omega) (by omega) (by omega) (by omega) (by omega) (by omega),fun i hi=>?_⟩
  have hpi:=ID hb hz (d:=i) (by omega)
  exact hpi.xo hb hk (by omega) (by omega) (by omega) (by omega) (by omega) (by omega) (by omega) (by omega)
 ·have hm:=Je hi
  have hn:=h.nn _ hm
  have h1:=hp i (by omega)
  have h2:=Ny (k:=k) hn.1 hn.2 (hw _ hm) (h.sz _ hm) hz (Nat.le_refl _)
  refine⟨h1.pw hk (by omega),h2.pw hk (by omega),Nat.le_trans h1.ln (by omega),Nat.le_trans h2.ln (by omega),?_⟩
  rw [Xi]
  have:=h1.Zj
  have:=h2.Zj
  omega
end
section
open Go.RowKit Ig
theorem CH {p:Pt} {u:Int} {z:Nat} (h:Yx p u) (hu:0≤u) (hl:p.length≤3) (hd:∀ e∈p,e.2.sum≤2) (hz:∀ t∈JM p,JX t.1≤z):Bd (JM p) (u+1).toNat 3 z 2 where
 can:=h.can
 wd:=fun t ht=>by have:=h.wide t ht;omega
 nn:=fun t ht=>by
  refine⟨fun x hx=>(h.small t ht x hx).1,?_⟩
  unfold JM at ht
  obtain ⟨e,he,rfl⟩:=List.mem_map.1 ht
  exact hd e he
 ln:=by unfold JM;rw [List.length_map];exact hl
 sz:=hz
theorem KL {F:Gs} {b:Nat} {ts:List GX} {T:TypeId} (h:F b=some ((ts.flatMap Wm).toArray,T)):JF F (NP b ts).1.q (NP b ts).1.n 2 ((NP b ts).2.flatMap Wm) :=
 JF.of h (Lg (f:=Wm) Vv ts)
theorem Ms {b:Nat} {ts:List GX} (P:Pt) (hP:XG ts=P) (hp:∀ e∈P,e.1.length≤1000000∧e.2.length≤1000000) (hl:P.length≤1000000):Vj (NP b ts):=by
 refine Cl (fun t ht=>?_) ?_
 ·have:(t.f,t.k)∈XG ts:=List.mem_map.2 ⟨t,ht,rfl⟩
  rw [hP] at this;exact hp _ this
 ·have:=congrArg List.length hP
  simp only [XG,List.length_map] at this;omega
theorem gZ {a:VF} (h:Vj a):∀ e∈[a],Vj e:=fun e he=>by rw [List.mem_singleton.1 he];exact h
theorem gY {a b:VF} (h:Vj a) (k:Vj b):∀ e∈[a,b],Vj e:=fun e he=>by
 rcases List.mem_cons.1 he with rfl | he
 ·exact h
 ·exact gZ k e he
theorem kK (a:List UInt8):qG .neq (tx a) (tx a)=some (.bool false):=by simp [qG,tx]
theorem Pa {F:Gs} {t:GX} (h:JP F t.r t.k):Yo F [t]:=fun x hx=>by rw [List.mem_singleton.1 hx];exact h
theorem N3 {F:Gs} {t:GX} {ts:List GX} (h:JP F t.r t.k) (hs:Yo F ts):Yo F (t::ts):=fun x hx=>by
 rcases List.mem_cons.1 hx with rfl | hx
 ·exact h
 ·exact hs x hx
theorem xD {F:Gs} {a:VF} (h1:JF F a.1.q a.1.n 2 (a.2.flatMap Wm)) (h2:Yo F a.2):YO F [a]:=fun x hx=>by rw [List.mem_singleton.1 hx];exact⟨h1,h2⟩
theorem kU {F:Gs} {a:VF} {l:List VF} (h1:JF F a.1.q a.1.n 2 (a.2.flatMap Wm)) (h2:Yo F a.2) (hs:YO F l):YO F (a::l):=fun x hx=>by
 rcases List.mem_cons.1 hx with rfl | hx
 ·exact⟨h1,h2⟩
 ·exact hs x hx
section
variable [Dr] [df:Df] {N:Nat} {m:Sl} {S:World→Prop} {ty:TypeId}
theorem Gg {yT:TypeId} {x y:Operand} {a b c d:List UInt8} (hx:ev m x=some (.agg #[tx a,tx b])) (hy:ev m y=some (.agg #[tx c,tx d])) (h1:a=c) (h2:b=d):Qt Tryz.prog N m S (.binOp .neq 24 x y yT) ty (.bool false):=by
 have h:=O6 (N:=N) (m:=m) (S:=S) (ty:=ty) (yT:=yT) hx hy
 rw [h1,h2] at h
 simpa using h
end
theorem M0 {w:World} {F:Gs} {a b:VF} {P:Pt} (hF:Fits F w) (hA:Vh F a.1 a.2 P) (hB:JF F b.1.q b.1.n 2 (b.2.flatMap Wm)) (hB2:Yo F b.2) (hl:b.2.length=b.1.n) (hP:XG b.2=P) (hp:∀ e∈P,e.1.length≤1000000∧e.2.length≤1000000) (hpl:P.length≤1000000) :
  QW Tryz.prog 43 [a.1.v,b.1.v] w F (.bool true):=by
 have ht:=hA.vS hp hpl
 have h:=TU (q:=a.1.q) (n:=a.1.n) (cap:=a.1.cap) (q2:=b.1.q) (n2:=b.1.n) (cap2:=b.1.cap) (a:=a.2) (b:=b.2) hF hA.1 hA.2.1 hB hB2 hA.2.2.2.2 hl (fun t h=>(ht.2.1 t h).2) ht.2.2
 rw [decide_eq_true (hA.2.2.1.trans hP.symm)] at h
 exact h
variable {w:World} {F:Gs}
theorem dE (hF:Fits F w) (hGl:JC F):QW Tryz.prog 71 [tx [49,50,46,53,48]] w F (.tuple #[tx [50,53,47,50],.int .i64 0]):=by
 have h:=CT (s:=[49,50,46,53,48]) hF hGl (by decide)
 rw [show R3 [49,50,46,53,48]=([50,53,47,50],0) from by decide +kernel] at h
 exact h
theorem dD (hF:Fits F w) (hGl:JC F):QW Tryz.prog 17 [tx [45,51,47,56],.int .i64 2] w F (.tuple #[tx [45,49,47,52],.int .i64 0]):=by
 have h:=LO (s:=[45,51,47,56]) (b:=2) hF hGl (by decide)
 rw [show Tz [45,51,47,56] 2=([45,49,47,52],0) from by decide +kernel] at h
 exact h
theorem dC (hF:Fits F w) (hGl:JC F):QW Tryz.prog 18 [.agg #[tx [49,47,51],tx [50,47,51]],.int .i64 2] w F (.tuple #[.agg #[tx [49,47,52],tx [51,47,52]],.int .i64 0]):=by
 have h:=LG (lo:=[49,47,51]) (hi:=[50,47,51]) (b:=2) hF hGl (by decide)
 rw [show LH [49,47,51] [50,47,51] 2=(([49,47,52],[51,47,52]),0) from by decide +kernel] at h
 exact h
theorem dB (hF:Fits F w) (hGl:JC F):QW Tryz.prog 47 [.agg #[tx [45,49],tx [50]],.agg #[tx [45,51],tx [49]]] w F (.tuple #[.agg #[tx [45,54],tx [51]],.int .i64 0]):=by
 have h:=Au (a:=([45,49],[50])) (b:=([45,51],[49])) hF hGl (by unfold short;decide) (by unfold short;decide)
 rw [show Bf V1 ([45,49],[50]) ([45,51],[49])=(([45,54],[51]),0) from by decide +kernel] at h
 exact h
theorem dA (hF:Fits F w) (hGl:JC F):QW Tryz.prog 48 [.agg #[tx [45,49],tx [50]],.int .i64 2] w F (.tuple #[.agg #[tx [48],tx [52]],.int .i64 0]):=by
 have h:=Tg (lo:=[45,49]) (hi:=[50]) (n:=2) hF hGl (by decide)
 rw [show LB [45,49] [50] 2=(([48],[52]),0) from by decide +kernel] at h
 exact h
theorem PU {a:VF} {q:Option Addr} {n cap:Nat} {ss:List (List UInt8×List UInt8)} {P:Pt} {lo hi:List UInt8} (hF:Fits F w) (hGl:JC F) (hR:JF F a.1.q a.1.n 2 (a.2.flatMap Wm)) (hA:Yo F a.2) (ht:Vj a) (hS:JF F q n 2 (ss.flatMap TI)) (hn:ss.length=n) (hl:∀ s∈ss,s.1.length≤1000000∧s.2.length≤1000000) (hnb:n≤1000000) (hP:XG a.2=P) (h:yL P ss=((lo,hi),0)) :
  QW Tryz.prog 81 [a.1.v,.slice q n cap] w F (.tuple #[.agg #[tx lo,tx hi],.int .i64 0]):=by
 have h1:=Um (cap:=cap) hF hGl hR hA ht hS hn hl hnb
 rw [hP,h] at h1
 exact h1
theorem vu (hF:Fits F w):QW Tryz.prog 66 [tx [120,95,49]] w F (.bool true):=by
 have h:=UZ (s:=[120,95,49]) hF (by decide)
 rw [show P9 [120,95,49]=true from by decide +kernel] at h
 exact h
theorem vt (hF:Fits F w):QW Tryz.prog 66 [tx [49,120]] w F (.bool false):=by
 have h:=UZ (s:=[49,120]) hF (by decide)
 rw [show P9 [49,120]=false from by decide +kernel] at h
 exact h
theorem yW:Ir ([[([49],[0])],[([49],[1]),([45,49],[0])]].map JM) ((0:Int)+1).toNat (JM [([49],[0,2]),([49],[1,0])]):=by
 refine yP (z:=2400) ⟨by decide +kernel,by decide +kernel,by decide +kernel,by decide +kernel,fun w hw=>?_⟩ (by decide) (by decide) (by decide)
 simp only [List.map_cons,List.map_nil,List.mem_cons,List.not_mem_nil,or_false] at hw
 rcases hw with rfl | rfl
 ·exact CH (V5 (v:=0) (by decide +kernel)) (by decide) (by decide) (by decide) (by decide +kernel)
 ·exact CH (V5 (v:=0) (by decide +kernel)) (by decide) (by decide) (by decide) (by decide +kernel)
theorem Sk (hF:Fits F w) (hGl:JC F):QW Tryz.prog 16 [] w F (.bool true):=by
 refine QT.intro (G:=fun F=>JC F) Tryz.func16 rfl (by rfl) rfl rfl hF (fun F' hF'=>hGl.le hF')<|QG<|QB<|QA (QE rfl)<|QF<|QD<|QG<|QB<|QH rfl (fun w F hF hGl=>dE hF hGl) (fun _=>QA (QC rfl)<|QA (QK rfl rfl)<|QA (QK rfl rfl)<|QA (QE rfl)<|QA (QE rfl)<|QF<|QD<|QG<|QB<|QH rfl (fun w F hF ⟨hGl,_⟩=>dD hF hGl) (fun _=>QA (QC rfl)<|QA (QK rfl rfl)<|QA (QK rfl rfl)<|QA (QE rfl)<|QA (QE rfl)<|QF ?_))
 refine QD<|QG<|QB<|QA (Q9 rfl KR Yp (.cons (vs:=[_]) rfl rfl rfl (.here .nil) (.cons (vs:=[_]) rfl rfl rfl (.skip (.here .nil)) .nil)))<|QH rfl (fun w F hF ⟨⟨hGl,_⟩,_⟩=>dC hF hGl) (fun _=>QA (QC rfl)<|QA (QK rfl rfl)<|QA (QK rfl rfl)<|QZ Yp (fun b5=>QP (vs:=[_,_]) rfl rfl rfl Jw rfl .here (.here (.here .nil)) ⟨rfl,rfl,trivial⟩<|QA (QE rfl)<|QF<|QD<|QG<|QB<|QA (Q9 rfl KR Yp (.cons (vs:=[_]) rfl rfl rfl (.here .nil) (.cons (vs:=[_]) rfl rfl rfl (.skip (.here .nil)) .nil)))<|QA (Q9 rfl KR Yp (.cons (vs:=[_]) rfl rfl rfl (.here .nil) (.cons (vs:=[_]) rfl rfl rfl (.skip (.here .nil)) .nil)))<|QH rfl (fun w F hF ⟨⟨⟨hGl,_⟩,_⟩,_⟩=>dB hF hGl) (fun _=>QA (QC rfl)<|QA (QK rfl rfl)<|QA (QK rfl rfl)<|QZ Yp (fun b7=>QP (vs:=[_,_]) rfl rfl rfl Jw rfl .here (.here (.here .nil)) ⟨rfl,rfl,trivial⟩<|QA (QE rfl)<|QF ?_))))
 refine QD<|QG<|QB<|QA (Q9 rfl KR Yp (.cons (vs:=[_]) rfl rfl rfl (.here .nil) (.cons (vs:=[_]) rfl rfl rfl (.skip (.here .nil)) .nil)))<|QH rfl (fun w F hF ⟨⟨⟨⟨hGl,_⟩,_⟩,_⟩,_⟩=>dA hF hGl) (fun _=>QA (QC rfl)<|QA (QK rfl rfl)<|QA (QK rfl rfl)<|QZ Yp (fun b9=>QP (vs:=[_,_]) rfl rfl rfl Jw rfl .here (.here (.here .nil)) ⟨rfl,rfl,trivial⟩<|QA (QE rfl)<|QF<|QD<|QG<|QB<|QV rfl (Q8 Qe) Qu Vi rfl rfl (fun b44=>QA (Q9 rfl ZP Xm (.cons (vs:=[_]) rfl rfl rfl (.here .nil) (.cons (vs:=[_]) rfl rfl rfl (.skip (.here .nil)) .nil)))<|QV rfl (Q8 Qe) Qu Vi rfl rfl (fun b46=>QA (Q9 rfl ZP Xm (.cons (vs:=[_]) rfl rfl rfl (.here .nil) (.cons (vs:=[_]) rfl rfl rfl (.skip (.here .nil)) .nil)))<|QV rfl (Q8 Zp) X3 Xm rfl rfl (fun b48=>QA (QE rfl)<|QF<|QD<|QG<|QB ?_)))))
 refine QA (QC rfl)<|QA (QC rfl)<|QH rfl (fun w F hF ⟨⟨⟨⟨⟨⟨⟨⟨hGl,_⟩,_⟩,_⟩,_⟩,_⟩,hs44⟩,hs46⟩,hs48⟩=>T0 (a:=(NP b48 [Y0 [49] b44 [1,0],Y0 [49] b46 [0,1]])) (b:=(NP b48 [Y0 [49] b44 [1,0],Y0 [49] b46 [0,1]])) (P:=[([49],[1,0]),([49],[0,1])]) (Q:=[([49],[1,0]),([49],[0,1])]) (R:=[([49],[2,0]),([50],[1,1]),([49],[0,2])]) hF hGl (kU (a:=(NP b48 [Y0 [49] b44 [1,0],Y0 [49] b46 [0,1]])) (KL (ts:=[Y0 [49] b44 [1,0],Y0 [49] b46 [0,1]]) hs48) (N3 (J6 (k:=[1,0]) hs44) (Pa (J6 (k:=[0,1]) hs46))) (xD (a:=(NP b48 [Y0 [49] b44 [1,0],Y0 [49] b46 [0,1]])) (KL (ts:=[Y0 [49] b44 [1,0],Y0 [49] b46 [0,1]]) hs48) (N3 (J6 (k:=[1,0]) hs44) (Pa (J6 (k:=[0,1]) hs46))))) (gY (Ms [([49],[1,0]),([49],[0,1])] rfl (by decide) (by decide)) (Ms [([49],[1,0]),([49],[0,1])] rfl (by decide) (by decide))) rfl rfl (by decide +kernel) (by decide +kernel) (by decide +kernel) (by decide +kernel) (by decide +kernel)) (fun c52=>QA (QC rfl)<|QA (QK rfl rfl)<|QA (QK rfl rfl)<|QA (QE rfl)<|QA (QE rfl)<|QF<|QD<|QG<|QB<|QV rfl (Q8 Qe) Qu Vi rfl rfl (fun b56=>QA (Q9 rfl ZP Xm (.cons (vs:=[_]) rfl rfl rfl (.here .nil) (.cons (vs:=[_]) rfl rfl rfl (.skip (.here .nil)) .nil)))<|QV rfl (Q8 Qe) Qu Vi rfl rfl (fun b58=>QA (Q9 rfl ZP Xm (.cons (vs:=[_]) rfl rfl rfl (.here .nil) (.cons (vs:=[_]) rfl rfl rfl (.skip (.here .nil)) .nil)))<|QV rfl (Q8 Qe) Qu Vi rfl rfl (fun b60=>QA (Q9 rfl ZP Xm (.cons (vs:=[_]) rfl rfl rfl (.here .nil) (.cons (vs:=[_]) rfl rfl rfl (.skip (.here .nil)) .nil)))<|QV rfl (Q8 Zp) X3 Xm rfl rfl (fun b62=>QH rfl (fun w F hF ⟨⟨⟨⟨⟨⟨⟨⟨⟨⟨⟨⟨⟨hGl,_⟩,_⟩,_⟩,_⟩,_⟩,hs44⟩,hs46⟩,hs48⟩,h52⟩,hs56⟩,hs58⟩,hs60⟩,hs62⟩=>Nu (a:=(NP b62 [Y0 [50] b56 [0,2],Y0 [45,51] b58 [1,0],Y0 [49] b60 [0,0]])) (P:=[([50],[0,2]),([45,51],[1,0]),([49],[0,0])]) (R:=[([52],[0,1])]) hF hGl (xD (a:=(NP b62 [Y0 [50] b56 [0,2],Y0 [45,51] b58 [1,0],Y0 [49] b60 [0,0]])) (KL (ts:=[Y0 [50] b56 [0,2],Y0 [45,51] b58 [1,0],Y0 [49] b60 [0,0]]) hs62) (N3 (J6 (k:=[0,2]) hs56) (N3 (J6 (k:=[1,0]) hs58) (Pa (J6 (k:=[0,0]) hs60))))) (gZ (Ms [([50],[0,2]),([45,51],[1,0]),([49],[0,0])] rfl (by decide) (by decide))) rfl (by decide +kernel) (by decide +kernel) (by decide +kernel) (by decide +kernel) (by decide +kernel)) (fun c63=>QA (QC rfl)<|QA (QK rfl rfl)<|QA (QK rfl rfl)<|QA (QE rfl)<|QA (QE rfl) ?_))))))
 refine QF<|QD<|QG<|QB<|QV rfl (Q8 Qe) Qu Vi rfl rfl (fun b67=>QA (Q9 rfl ZP Xm (.cons (vs:=[_]) rfl rfl rfl (.here .nil) (.cons (vs:=[_]) rfl rfl rfl (.skip (.here .nil)) .nil)))<|QV rfl (Q8 Qe) Qu Vi rfl rfl (fun b69=>QA (Q9 rfl ZP Xm (.cons (vs:=[_]) rfl rfl rfl (.here .nil) (.cons (vs:=[_]) rfl rfl rfl (.skip (.here .nil)) .nil)))<|QV rfl (Q8 Zp) X3 Xm rfl rfl (fun b71=>QA (Q9 rfl KR Yp (.cons (vs:=[_]) rfl rfl rfl (.here .nil) (.cons (vs:=[_]) rfl rfl rfl (.skip (.here .nil)) .nil)))<|QA (Q9 rfl KR Yp (.cons (vs:=[_]) rfl rfl rfl (.here .nil) (.cons (vs:=[_]) rfl rfl rfl (.skip (.here .nil)) .nil)))<|QV rfl (Q8 TK) Jw Yp rfl rfl (fun b74=>QH rfl (fun w F hF ⟨⟨⟨⟨⟨⟨⟨⟨⟨⟨⟨⟨⟨⟨⟨⟨⟨⟨hGl,_⟩,_⟩,_⟩,_⟩,_⟩,hs44⟩,hs46⟩,hs48⟩,h52⟩,hs56⟩,hs58⟩,hs60⟩,hs62⟩,h63⟩,hs67⟩,hs69⟩,hs71⟩,hs74⟩=>PU (a:=(NP b71 [Y0 [49] b67 [0,2],Y0 [45,49] b69 [0,1]])) (ss:=[([48],[57]),([48],[49])]) (P:=[([49],[0,2]),([45,49],[0,1])]) (lo:=[45,49]) (hi:=[49]) hF hGl (KL (ts:=[Y0 [49] b67 [0,2],Y0 [45,49] b69 [0,1]]) hs71) (N3 (J6 (k:=[0,2]) hs67) (Pa (J6 (k:=[0,1]) hs69))) (Ms [([49],[0,2]),([45,49],[0,1])] rfl (by decide) (by decide)) (JF.of (n:=2) (sz:=2) (cs:=[([48],[57]),([48],[49])].flatMap TI) hs74 rfl) rfl (by decide) (by decide) rfl (by decide +kernel)) (fun _=>QA (QC rfl)<|QA (QK rfl rfl)<|QA (QK rfl rfl)<|QZ Yp (fun b16=>QP (vs:=[_,_]) rfl rfl rfl Jw rfl .here (.here (.here .nil)) ⟨rfl,rfl,trivial⟩<|QA (QE rfl)<|QF<|QD<|QG<|QB<|QV rfl (Q8 Qe) Qu Vi rfl rfl (fun b79=>QA (Q9 rfl ZP Xm (.cons (vs:=[_]) rfl rfl rfl (.here .nil) (.cons (vs:=[_]) rfl rfl rfl (.skip (.here .nil)) .nil))) ?_)))))))
 refine QV rfl (Q8 Qe) Qu Vi rfl rfl (fun b81=>QA (Q9 rfl ZP Xm (.cons (vs:=[_]) rfl rfl rfl (.here .nil) (.cons (vs:=[_]) rfl rfl rfl (.skip (.here .nil)) .nil)))<|QV rfl (Q8 Zp) X3 Xm rfl rfl (fun b83=>QV rfl (Q8 Qe) Qu Vi rfl rfl (fun b84=>QA (Q9 rfl ZP Xm (.cons (vs:=[_]) rfl rfl rfl (.here .nil) (.cons (vs:=[_]) rfl rfl rfl (.skip (.here .nil)) .nil)))<|QV rfl (Q8 Zp) X3 Xm rfl rfl (fun b86=>QV rfl (Q8 Qe) Qu Vi rfl rfl (fun b87=>QA (Q9 rfl ZP Xm (.cons (vs:=[_]) rfl rfl rfl (.here .nil) (.cons (vs:=[_]) rfl rfl rfl (.skip (.here .nil)) .nil)))<|QV rfl (Q8 Qe) Qu Vi rfl rfl (fun b89=>QA (Q9 rfl ZP Xm (.cons (vs:=[_]) rfl rfl rfl (.here .nil) (.cons (vs:=[_]) rfl rfl rfl (.skip (.here .nil)) .nil)))<|QV rfl (Q8 Zp) X3 Xm rfl rfl (fun b91=>QV rfl (Q8 EA) Mm zB rfl rfl (fun b92=>QH rfl (fun w F hF ⟨⟨⟨⟨⟨⟨⟨⟨⟨⟨⟨⟨⟨⟨⟨⟨⟨⟨⟨⟨⟨⟨⟨⟨⟨⟨⟨⟨hGl,_⟩,_⟩,_⟩,_⟩,_⟩,hs44⟩,hs46⟩,hs48⟩,h52⟩,hs56⟩,hs58⟩,hs60⟩,hs62⟩,h63⟩,hs67⟩,hs69⟩,hs71⟩,hs74⟩,_⟩,hs79⟩,hs81⟩,hs83⟩,hs84⟩,hs86⟩,hs87⟩,hs89⟩,hs91⟩,hs92⟩=>Uw (a:=(NP b83 [Y0 [49] b79 [0,2],Y0 [49] b81 [1,0]])) (ls:=[(NP b86 [Y0 [49] b84 [0]]),(NP b91 [Y0 [49] b87 [1],Y0 [45,49] b89 [0]])]) (P:=[([49],[0,2]),([49],[1,0])]) (Ws:=[[([49],[0])],[([49],[1]),([45,49],[0])]]) (R:=[([49],[2]),([45,50],[1]),([50],[0])]) hF hGl (xD (a:=(NP b83 [Y0 [49] b79 [0,2],Y0 [49] b81 [1,0]])) (KL (ts:=[Y0 [49] b79 [0,2],Y0 [49] b81 [1,0]]) hs83) (N3 (J6 (k:=[0,2]) hs79) (Pa (J6 (k:=[1,0]) hs81)))) (Ms [([49],[0,2]),([49],[1,0])] rfl (by decide) (by decide)) (JF.of (n:=2) (sz:=1) (cs:=[(NP b86 [Y0 [49] b84 [0]]),(NP b91 [Y0 [49] b87 [1],Y0 [45,49] b89 [0]])].map fun e=>e.1.v) hs92 rfl) (kU (a:=(NP b86 [Y0 [49] b84 [0]])) (KL (ts:=[Y0 [49] b84 [0]]) hs86) (Pa (J6 (k:=[0]) hs84)) (xD (a:=(NP b91 [Y0 [49] b87 [1],Y0 [45,49] b89 [0]])) (KL (ts:=[Y0 [49] b87 [1],Y0 [45,49] b89 [0]]) hs91) (N3 (J6 (k:=[1]) hs87) (Pa (J6 (k:=[0]) hs89))))) rfl (gY (Ms [([49],[0])] rfl (by decide) (by decide)) (Ms [([49],[1]),([45,49],[0])] rfl (by decide) (by decide))) rfl rfl (by decide) (by decide) (by decide +kernel) (by decide) (by decide +kernel) yW (by decide +kernel) (by decide +kernel)) (fun c93=>QA (QC rfl)<|QA (QK rfl rfl)<|QA (QK rfl rfl)<|QA (QE rfl)<|QA (QE rfl)<|QF<|QD<|QG<|QG<|QB<|QA (QC rfl)<|QA (QC rfl) ?_)))))))))
 refine QA (Qw rfl rfl (by omega))<|QA (QC rfl)<|QA (Qw rfl rfl (by omega))<|QA (QC rfl)<|QA (Qw rfl rfl (by omega))<|QA (QC rfl)<|QA (Qw rfl rfl (by omega))<|QA (QC rfl)<|QA (Qw rfl rfl (by omega))<|QA (QC rfl)<|QA (Qw rfl rfl (by omega))<|QA (QC rfl)<|QA (Qw rfl rfl (by omega))<|QA (QC rfl)<|QA (Qw rfl rfl (by omega))<|QA (QU (v:=.bool false) rfl rfl rfl)<|QA (QC rfl)<|QJ rfl rfl<|QA (QC rfl)<|QJ rfl rfl<|QA (QU (v:=.bool false) rfl rfl (kK _))<|QA (Qh rfl rfl rfl)<|QA (QC rfl)<|QJ rfl rfl<|QA (QC rfl) ?_
 refine QJ rfl rfl<|QA (QU (v:=.bool false) rfl rfl (kK _))<|QA (Qh rfl rfl rfl)<|QA (QC rfl)<|QJ rfl rfl<|QA (QL (vs:=[_,_]) rfl Jw (.there (.there (.there .here))) (.here (.here .nil)) rfl)<|QJ rfl rfl<|QA (Q9 rfl KR Yp (.cons (vs:=[_]) rfl rfl rfl (.here .nil) (.cons (vs:=[_]) rfl rfl rfl (.skip (.here .nil)) .nil)))<|QJ rfl rfl<|QA (Gg rfl rfl rfl rfl)<|QA (Qh rfl rfl rfl)<|QA (QC rfl)<|QJ rfl rfl<|QA (QL (vs:=[_,_]) rfl Jw (.there (.there .here)) (.here (.here .nil)) rfl)<|QJ rfl rfl<|QA (Q9 rfl KR Yp (.cons (vs:=[_]) rfl rfl rfl (.here .nil) (.cons (vs:=[_]) rfl rfl rfl (.skip (.here .nil)) .nil)))<|QJ rfl rfl<|QA (Gg rfl rfl rfl rfl)<|QA (Qh rfl rfl rfl)<|QA (QC rfl)<|QJ rfl rfl<|QA (QL (vs:=[_,_]) rfl Jw (.there .here) (.here (.here .nil)) rfl)<|QJ rfl rfl<|QA (Q9 rfl KR Yp (.cons (vs:=[_]) rfl rfl rfl (.here .nil) (.cons (vs:=[_]) rfl rfl rfl (.skip (.here .nil)) .nil)))<|QJ rfl rfl ?_
 refine QA (Gg rfl rfl rfl rfl)<|QA (Qh rfl rfl rfl)<|QA (QC rfl)<|QJ rfl rfl<|QA (QL (vs:=[_,_]) rfl Jw .here (.here (.here .nil)) rfl)<|QJ rfl rfl<|QA (Q9 rfl KR Yp (.cons (vs:=[_]) rfl rfl rfl (.here .nil) (.cons (vs:=[_]) rfl rfl rfl (.skip (.here .nil)) .nil)))<|QJ rfl rfl<|QA (Gg rfl rfl rfl rfl)<|QA (Qh rfl rfl rfl)<|QF<|QD<|Zw rfl<|QN<|QD<|QG<|QG<|QB<|QA (QC rfl)<|QV rfl (Q8 Qe) Qu Vi rfl rfl (fun b143=>QA (Q9 rfl ZP Xm (.cons (vs:=[_]) rfl rfl rfl (.here .nil) (.cons (vs:=[_]) rfl rfl rfl (.skip (.here .nil)) .nil)))<|QV rfl (Q8 Qe) Qu Vi rfl rfl (fun b145=>QA (Q9 rfl ZP Xm (.cons (vs:=[_]) rfl rfl rfl (.here .nil) (.cons (vs:=[_]) rfl rfl rfl (.skip (.here .nil)) .nil)))<|QV rfl (Q8 Qe) Qu Vi rfl rfl (fun b147=>QA (Q9 rfl ZP Xm (.cons (vs:=[_]) rfl rfl rfl (.here .nil) (.cons (vs:=[_]) rfl rfl rfl (.skip (.here .nil)) .nil))) ?_)))
 refine QV rfl (Q8 Zp) X3 Xm rfl rfl (fun b149=>QH rfl (fun w F hF ⟨⟨⟨⟨⟨⟨⟨⟨⟨⟨⟨⟨⟨⟨⟨⟨⟨⟨⟨⟨⟨⟨⟨⟨⟨⟨⟨⟨⟨⟨⟨⟨⟨hGl,_⟩,_⟩,_⟩,_⟩,_⟩,hs44⟩,hs46⟩,hs48⟩,h52⟩,hs56⟩,hs58⟩,hs60⟩,hs62⟩,h63⟩,hs67⟩,hs69⟩,hs71⟩,hs74⟩,_⟩,hs79⟩,hs81⟩,hs83⟩,hs84⟩,hs86⟩,hs87⟩,hs89⟩,hs91⟩,hs92⟩,h93⟩,hs143⟩,hs145⟩,hs147⟩,hs149⟩=>M0 (a:=c52) (b:=(NP b149 [Y0 [49] b143 [2,0],Y0 [50] b145 [1,1],Y0 [49] b147 [0,2]])) (P:=[([49],[2,0]),([50],[1,1]),([49],[0,2])]) hF h52 (KL (ts:=[Y0 [49] b143 [2,0],Y0 [50] b145 [1,1],Y0 [49] b147 [0,2]]) hs149) (N3 (J6 (k:=[2,0]) hs143) (N3 (J6 (k:=[1,1]) hs145) (Pa (J6 (k:=[0,2]) hs147)))) rfl rfl (by decide) (by decide)) (fun _=>QA (ZO rfl)<|QA (QC rfl)<|QJ rfl rfl<|QA (QC rfl)<|QJ rfl rfl<|QV rfl (Q8 Qe) Qu Vi rfl rfl (fun b154=>QJ rfl rfl<|QA (Q9 rfl ZP Xm (.cons (vs:=[_]) rfl rfl rfl (.here .nil) (.cons (vs:=[_]) rfl rfl rfl (.skip (.here .nil)) .nil)))<|QJ rfl rfl<|QV rfl (Q8 Zp) X3 Xm rfl rfl (fun b156=>QJ rfl rfl<|QH rfl (fun w F hF ⟨⟨⟨⟨⟨⟨⟨⟨⟨⟨⟨⟨⟨⟨⟨⟨⟨⟨⟨⟨⟨⟨⟨⟨⟨⟨⟨⟨⟨⟨⟨⟨⟨⟨⟨⟨hGl,_⟩,_⟩,_⟩,_⟩,_⟩,hs44⟩,hs46⟩,hs48⟩,h52⟩,hs56⟩,hs58⟩,hs60⟩,hs62⟩,h63⟩,hs67⟩,hs69⟩,hs71⟩,hs74⟩,_⟩,hs79⟩,hs81⟩,hs83⟩,hs84⟩,hs86⟩,hs87⟩,hs89⟩,hs91⟩,hs92⟩,h93⟩,hs143⟩,hs145⟩,hs147⟩,hs149⟩,_⟩,hs154⟩,hs156⟩=>M0 (a:=c63) (b:=(NP b156 [Y0 [52] b154 [0,1]])) (P:=[([52],[0,1])]) hF h63 (KL (ts:=[Y0 [52] b154 [0,1]]) hs156) (Pa (J6 (k:=[0,1]) hs154)) rfl rfl (by decide) (by decide)) (fun _=>QJ rfl rfl<|QA (ZO rfl)<|QA (Qh rfl rfl rfl)<|QF<|QD<|Zw rfl<|QN<|QD<|QG<|QB<|QA (QC rfl) ?_)))))
 refine QV rfl (Q8 Qe) Qu Vi rfl rfl (fun b161=>QA (Q9 rfl ZP Xm (.cons (vs:=[_]) rfl rfl rfl (.here .nil) (.cons (vs:=[_]) rfl rfl rfl (.skip (.here .nil)) .nil)))<|QV rfl (Q8 Qe) Qu Vi rfl rfl (fun b163=>QA (Q9 rfl ZP Xm (.cons (vs:=[_]) rfl rfl rfl (.here .nil) (.cons (vs:=[_]) rfl rfl rfl (.skip (.here .nil)) .nil)))<|QV rfl (Q8 Qe) Qu Vi rfl rfl (fun b165=>QA (Q9 rfl ZP Xm (.cons (vs:=[_]) rfl rfl rfl (.here .nil) (.cons (vs:=[_]) rfl rfl rfl (.skip (.here .nil)) .nil)))<|QV rfl (Q8 Zp) X3 Xm rfl rfl (fun b167=>QH rfl (fun w F hF ⟨⟨⟨⟨⟨⟨⟨⟨⟨⟨⟨⟨⟨⟨⟨⟨⟨⟨⟨⟨⟨⟨⟨⟨⟨⟨⟨⟨⟨⟨⟨⟨⟨⟨⟨⟨⟨⟨⟨⟨⟨hGl,_⟩,_⟩,_⟩,_⟩,_⟩,hs44⟩,hs46⟩,hs48⟩,h52⟩,hs56⟩,hs58⟩,hs60⟩,hs62⟩,h63⟩,hs67⟩,hs69⟩,hs71⟩,hs74⟩,_⟩,hs79⟩,hs81⟩,hs83⟩,hs84⟩,hs86⟩,hs87⟩,hs89⟩,hs91⟩,hs92⟩,h93⟩,hs143⟩,hs145⟩,hs147⟩,hs149⟩,_⟩,hs154⟩,hs156⟩,_⟩,hs161⟩,hs163⟩,hs165⟩,hs167⟩=>M0 (a:=c93) (b:=(NP b167 [Y0 [49] b161 [2],Y0 [45,50] b163 [1],Y0 [50] b165 [0]])) (P:=[([49],[2]),([45,50],[1]),([50],[0])]) hF h93 (KL (ts:=[Y0 [49] b161 [2],Y0 [45,50] b163 [1],Y0 [50] b165 [0]]) hs167) (N3 (J6 (k:=[2]) hs161) (N3 (J6 (k:=[1]) hs163) (Pa (J6 (k:=[0]) hs165)))) rfl rfl (by decide) (by decide)) (fun _=>QA (QC rfl)<|QJ rfl rfl<|QH rfl (fun w F hF ⟨⟨⟨⟨⟨⟨⟨⟨⟨⟨⟨⟨⟨⟨⟨⟨⟨⟨⟨⟨⟨⟨⟨⟨⟨⟨⟨⟨⟨⟨⟨⟨⟨⟨⟨⟨⟨⟨⟨⟨⟨⟨hGl,_⟩,_⟩,_⟩,_⟩,_⟩,hs44⟩,hs46⟩,hs48⟩,h52⟩,hs56⟩,hs58⟩,hs60⟩,hs62⟩,h63⟩,hs67⟩,hs69⟩,hs71⟩,hs74⟩,_⟩,hs79⟩,hs81⟩,hs83⟩,hs84⟩,hs86⟩,hs87⟩,hs89⟩,hs91⟩,hs92⟩,h93⟩,hs143⟩,hs145⟩,hs147⟩,hs149⟩,_⟩,hs154⟩,hs156⟩,_⟩,hs161⟩,hs163⟩,hs165⟩,hs167⟩,_⟩=>vu hF) (fun _=>QA (Qi rfl rfl rfl)<|QA (QC rfl)<|QJ rfl rfl<|QH rfl (fun w F hF ⟨⟨⟨⟨⟨⟨⟨⟨⟨⟨⟨⟨⟨⟨⟨⟨⟨⟨⟨⟨⟨⟨⟨⟨⟨⟨⟨⟨⟨⟨⟨⟨⟨⟨⟨⟨⟨⟨⟨⟨⟨⟨⟨hGl,_⟩,_⟩,_⟩,_⟩,_⟩,hs44⟩,hs46⟩,hs48⟩,h52⟩,hs56⟩,hs58⟩,hs60⟩,hs62⟩,h63⟩,hs67⟩,hs69⟩,hs71⟩,hs74⟩,_⟩,hs79⟩,hs81⟩,hs83⟩,hs84⟩,hs86⟩,hs87⟩,hs89⟩,hs91⟩,hs92⟩,h93⟩,hs143⟩,hs145⟩,hs147⟩,hs149⟩,_⟩,hs154⟩,hs156⟩,_⟩,hs161⟩,hs163⟩,hs165⟩,hs167⟩,_⟩,_⟩=>vt hF) (fun _=>QJ rfl rfl<|QA (ZO rfl)<|QA (Qi rfl rfl rfl)<|QA (QE rfl)<|QF<|QD<|QS ?_)))))))
 exact QQ (()) rfl (.tmp rfl .nil) (rfl) (fun F ⟨⟨⟨⟨⟨⟨⟨⟨⟨⟨⟨⟨⟨⟨⟨⟨⟨⟨⟨⟨⟨⟨⟨⟨⟨⟨⟨⟨⟨⟨⟨⟨⟨⟨⟨⟨⟨⟨⟨⟨⟨⟨⟨⟨hGl,_⟩,_⟩,_⟩,_⟩,_⟩,hs44⟩,hs46⟩,hs48⟩,h52⟩,hs56⟩,hs58⟩,hs60⟩,hs62⟩,h63⟩,hs67⟩,hs69⟩,hs71⟩,hs74⟩,_⟩,hs79⟩,hs81⟩,hs83⟩,hs84⟩,hs86⟩,hs87⟩,hs89⟩,hs91⟩,hs92⟩,h93⟩,hs143⟩,hs145⟩,hs147⟩,hs149⟩,_⟩,hs154⟩,hs156⟩,_⟩,hs161⟩,hs163⟩,hs165⟩,hs167⟩,_⟩,_⟩,_⟩=>trivial)
end
section
open Go.RowKit Ig
theorem qN (z:Int):U4 (XX z)=Lib.decDigits z.natAbs:=by
 have h:=TM ((z:Int):Rat)
 rw [SO,show((z:Int):Rat).num=z from by simp] at h
 unfold U4
 rw [h]
 unfold Eg
 by_cases h0:z<0
 ·rw [if_pos h0,if_pos (by decide),Zg h0];rfl
 ·rw [if_neg h0,Jj (by omega),if_neg (by split<;>decide)]
theorem LU (x:Rat):GI (JJ x)=if Xk x=true then 4 else 0:=by
 have hn:decide (600<(U4 (numOf (JJ x))).length)=Ha x.num:=by
  have e:numOf (JJ x)=XX x.num:=by
   unfold numOf
   by_cases h:x.den=1
   ·obtain ⟨h1,h2⟩:=Hm h
    rw [h2,List.take_length,h1]
   ·exact(Kg h).2.2.1
  rw [e,qN]
  unfold Ha
  exact decide_eq_decide.2 (SE _)
 have hd:decide (600<(EP (JJ x)).length)=Ha x.den:=by
  unfold EP Ha
  by_cases h:x.den=1
  ·rw [if_pos ((Hn x).2 h),h]
   have h1:¬ lim≤(((1:Nat):Int)).natAbs:=by
    exact Nat.not_le.2 (Nat.lt_of_le_of_lt Nat.one_le_two_pow IK)
   rw [decide_eq_false h1]
   simp
  ·rw [if_neg fun e=>h ((Hn x).1 e),(Kg h).2.2.2]
   exact decide_eq_decide.2 (SE _)
 unfold GI Xk
 rw [hn,hd]
theorem Cc (x:Rat):De (Kt x).1 (Kt x).2 0 (JJ x)=true:=by
 unfold De Kt
 rw [if_pos rfl,LU]
 cases Xk x<;>simp
theorem jQ {d:Int} (h:d≠0) (w:List UInt8):De [] d d w=true:=by
 unfold De;rw [if_neg h];simp
end
section
open Go.RowKit Ig
section
variable {w:World} {F:Gs}
theorem X6 {p:List UInt8×Int} {d:Int} {u:List UInt8} (hF:Fits F w) (hd:d≠0) (hp:p=([],d)) (hu:u.length≤1000000000):QW Tryz.prog 25 [tx p.1,.int .i64 p.2,.int .i64 d,tx u] w F (.bool true):=by
 rw [hp]
 have h:=RD (a:=[]) (b:=u) (e:=d) (d:=d) hF hu
 rw [jQ hd] at h
 exact h
theorem ZC {p:List UInt8×Int} {r:Rat} (hF:Fits F w) (hp:p=Kt r) (hr:JX r≤100000000):QW Tryz.prog 25 [tx p.1,.int .i64 p.2,.int .i64 0,tx (JJ r)] w F (.bool true):=by
 rw [hp]
 have h:=RD (a:=(Kt r).1) (b:=JJ r) (e:=(Kt r).2) (d:=0) hF (by have:=Gj r;omega)
 rw [Cc] at h
 exact h
variable {a b:List UInt8}
theorem F8 (hF:Fits F w) (ha:Qp a=0) (hb:Qp b=0):QW Tryz.prog 92 [tx a,tx b] w F (tx (JJ (JA a+JA b))):=by
 have h:=Oy (x:=JA a) (y:=JA b) hF (Nat.le_trans (Q7 ha) (by decide)) (Nat.le_trans (Q7 hb) (by decide))
 rwa [← (Jq ha).1,← (Jq hb).1] at h
theorem Fy (hF:Fits F w) (ha:Qp a=0) (hb:Qp b=0):QW Tryz.prog 32 [tx a,tx b] w F (tx (JJ (JA a - JA b))):=by
 have h:=Ol (x:=JA a) (y:=JA b) hF (Nat.le_trans (Q7 ha) (by decide)) (Nat.le_trans (Q7 hb) (by decide))
 rwa [← (Jq ha).1,← (Jq hb).1] at h
theorem F2 (hF:Fits F w) (ha:Qp a=0) (hb:Qp b=0):QW Tryz.prog 93 [tx a,tx b] w F (tx (JJ (JA a*JA b))):=by
 have h:=Oq (x:=JA a) (y:=JA b) hF (Nat.le_trans (Q7 ha) (by decide)) (Nat.le_trans (Q7 hb) (by decide))
 rwa [← (Jq ha).1,← (Jq hb).1] at h
theorem F4 (hF:Fits F w) (ha:Qp a=0) (hb:Qp b=0) (h0:(JA b).num≠0):QW Tryz.prog 37 [tx a,tx b] w F (tx (JJ (JA a / JA b))):=by
 have h:=zP (x:=JA a) (y:=JA b) hF h0 (Nat.le_trans (Q7 ha) (by decide)) (Nat.le_trans (Q7 hb) (by decide))
 rwa [← (Jq ha).1,← (Jq hb).1] at h
theorem I4 (hF:Fits F w) (ha:Qp a=0):QW Tryz.prog 91 [tx a] w F (tx (JJ (((JA a).floor:Int):Rat))):=by
 have h:=Ov (x:=JA a) hF (Nat.le_trans (Q7 ha) (by decide))
 rwa [← (Jq ha).1] at h
end
theorem Fp {x y:Rat} (h:y.num≠0):JX (x / y)≤JX x+JX y:=by
 rw [Rat.div_def]
 have:=J2 x y⁻¹
 have:=Ez h
 omega
theorem VY {op:Rat→Rat→Rat} {a b:List UInt8} (h:¬ Qj [Qp a,Qp b]=0):ZZ op a b=([],Qj [Qp a,Qp b]):=if_neg h
theorem KF {op:Rat→Rat→Rat} {a b:List UInt8} (h:Qj [Qp a,Qp b]=0):ZZ op a b=Kt (op (JA a) (JA b)):=if_pos h
theorem IU {a b:List UInt8} (h:¬ Qj [Qp a,Qp b]=0):G5 a b=([],Qj [Qp a,Qp b]):=by
 unfold G5;rw [if_neg fun k=>h k.1];exact VY h
theorem div_zero {a b:List UInt8} (h:Qj [Qp a,Qp b]=0) (k:b=[48]):G5 a b=([],6):=if_pos ⟨h,k⟩
theorem Ur {a b:List UInt8} (h:Qj [Qp a,Qp b]=0) (k:¬ b=[48]):G5 a b=Kt (JA a / JA b):=by
 unfold G5;rw [if_neg fun e=>k e.2];exact KF h
theorem Vt {a b:List UInt8} (h:¬ Qj [Qp a,Qp b]=0):ZG a b=(0,Qj [Qp a,Qp b]):=if_neg h
theorem B8 {a b:List UInt8} (h:Qj [Qp a,Qp b]=0):ZG a b=(Wz (JA a) (JA b),0):=if_pos h
end
section
open Go.RowKit Ig
theorem LK {w:World} {F:Gs} {a b:List UInt8} (hF:Fits F w) (hGl:JC F):QW Tryz.prog 12 [tx a,tx b] w F (.bool true):=by
 refine QT.intro (G:=fun F=>JC F) Tryz.func12 rfl (by rfl) rfl rfl hF (fun F' hF'=>hGl.le hF')<|QG<|QB<|QA (QE rfl)<|QF<|QD<|QG<|QG<|QB<|QH rfl (fun w F hF hGl=>Sk hF hGl) (fun _=>QA (ZO rfl)<|QA (QC rfl)<|QJ rfl rfl<|QA (QC rfl)<|QJ rfl rfl<|QA (Jo rfl V8)<|QJ rfl rfl<|QA (QU rfl rfl rfl)<|QA (Qh rfl rfl rfl)<|QA (QC rfl) ?_)
 refine Qk (t:=26) rfl (fun hb26=>?_) (fun hb26=>?_)
 ·
  refine QR rfl rfl rfl<|QR rfl rfl rfl<|QR rfl rfl rfl<|QA (Qi rfl rfl rfl)<|QF<|QD<|K8 rfl<|QG<|QB<|QH rfl (fun w F hF ⟨hGl,_⟩=>Sk hF hGl) (fun _=>QA (QE rfl)<|QF<|QD<|QS ?_)
  exact QQ (()) rfl (.tmp rfl .nil) (rfl) (fun F ⟨⟨hGl,_⟩,_⟩=>trivial)
 ·
  refine QJ rfl rfl<|QA (QC rfl)<|QJ rfl rfl<|QA (Jo rfl V8)<|QJ rfl rfl<|QA (QU rfl rfl rfl)<|QA (Qh rfl rfl rfl)<|QF<|QD ?_
  refine QO rfl (fun hc=>?_) (fun hc=>?_)
  ·
   refine QG<|QB<|QH rfl (fun w F hF ⟨hGl,_⟩=>Sk hF hGl) (fun _=>QA (QE rfl)<|QF<|QD<|QS ?_)
   exact QQ (()) rfl (.tmp rfl .nil) (rfl) (fun F ⟨⟨hGl,_⟩,_⟩=>trivial)
  ·
   have hl60:a.length≤60∧b.length≤60:=by simp_all;omega
   have hl:a.length≤1000000∧b.length≤1000000:=⟨by omega,by omega⟩
   refine QN<|QD<|QG<|QB<|QA (QC rfl)<|QA (QC rfl)<|QH rfl (fun w F hF ⟨hGl,_⟩=>yb hF hGl hl) (fun _=>QA (QC rfl)<|QA (QK rfl rfl)<|QA (QK rfl rfl)<|QA (QE rfl)<|QA (QE rfl)<|QF<|QD<|QG<|QB<|QA (QC rfl)<|QA (QC rfl)<|QH rfl (fun w F hF ⟨⟨hGl,_⟩,_⟩=>zI hF hGl hl) (fun _=>QA (QC rfl)<|QA (QK rfl rfl)<|QA (QK rfl rfl)<|QA (QE rfl)<|QA (QE rfl)<|QF ?_))
   refine QD<|QG<|QB<|QA (QC rfl)<|QA (QC rfl)<|QH rfl (fun w F hF ⟨⟨⟨hGl,_⟩,_⟩,_⟩=>z6 hF hGl hl) (fun _=>QA (QC rfl)<|QA (QK rfl rfl)<|QA (QK rfl rfl)<|QA (QE rfl)<|QA (QE rfl)<|QF<|QD<|QG<|QB<|QA (QC rfl)<|QA (QC rfl)<|QH rfl (fun w F hF ⟨⟨⟨⟨hGl,_⟩,_⟩,_⟩,_⟩=>yM hF hGl hl) (fun _=>QA (QC rfl)<|QA (QK rfl rfl)<|QA (QK rfl rfl)<|QA (QE rfl)<|QA (QE rfl)<|QF<|QD ?_))
   refine QG<|QB<|QA (QC rfl)<|QA (QC rfl)<|QH rfl (fun w F hF ⟨⟨⟨⟨⟨hGl,_⟩,_⟩,_⟩,_⟩,_⟩=>Fa hF hGl hl) (fun _=>QA (QC rfl)<|QA (QK rfl rfl)<|QA (QK rfl rfl)<|QA (QE rfl)<|QA (QE rfl)<|QF<|QD<|QG<|QB<|QA (QC rfl)<|QH rfl (fun w F hF ⟨⟨⟨⟨⟨⟨hGl,_⟩,_⟩,_⟩,_⟩,_⟩,_⟩=>C2 hF hGl hl.1) (fun _=>QA (QC rfl)<|QA (QK rfl rfl)<|QA (QK rfl rfl)<|QA (QE rfl)<|QA (QE rfl)<|QF<|QD<|QG<|QB ?_))
   refine QA (QC rfl)<|QA (QC rfl)<|QV rfl (Q8 BO) X2 OG rfl rfl (fun b69=>QH rfl (fun w F hF ⟨⟨⟨⟨⟨⟨⟨⟨hGl,_⟩,_⟩,_⟩,_⟩,_⟩,_⟩,_⟩,hs69⟩=>Tb (l:=[a,b]) hF (JF.of (n:=2) (sz:=1) (cs:=List.map tx [a,b]) hs69 rfl) ⟨rfl,fun s hs=>by simp at hs;rcases hs with rfl | rfl;exact hl.1;exact hl.2⟩ (by decide)) (fun _=>QA (QE rfl)<|QF<|QD<|QG<|QG<|QB<|QA (QC rfl)<|QH rfl (fun w F hF ⟨⟨⟨⟨⟨⟨⟨⟨⟨hGl,_⟩,_⟩,_⟩,_⟩,_⟩,_⟩,_⟩,hs69⟩,_⟩=>Ta hF hl.1) (fun _=>QA (QE rfl)<|QF<|QD<|QG<|QB<|QA (QC rfl)<|QA (QU rfl rfl rfl)<|QF<|QD ?_)))
   refine QO rfl (fun hc=>?_) (fun hc=>?_)
   ·
    have hfa:Qp a≠0:=by simpa using hc
    refine QG<|QB<|QA (QC rfl)<|QA (QC rfl)<|QA (QC rfl)<|QH rfl (fun w F hF ⟨⟨⟨⟨⟨⟨⟨⟨⟨⟨hGl,_⟩,_⟩,_⟩,_⟩,_⟩,_⟩,_⟩,hs69⟩,_⟩,_⟩=>X6 (p:=Dp a) (d:=Qp a) (u:=[]) hF hfa (if_neg hfa) (Nat.zero_le _)) (fun _=>QA (ZO rfl)<|QF<|QD ?_)
    refine QO rfl (fun hc=>?_) (fun hc=>?_)
    ·exact absurd hc (by simp)
    ·
     refine QN<|QD<|QG<|QG<|QB<|QA (QC rfl)<|QA (QU rfl rfl rfl)<|QF<|QD ?_
     refine QO rfl (fun hc=>?_) (fun hc=>?_)
     ·
      have hbad:¬ Qj [Qp a,Qp b]=0:=by simpa using hc
      refine QG<|QB<|QA (QC rfl)<|QA (QC rfl)<|QA (QC rfl)<|QH rfl (fun w F hF ⟨⟨⟨⟨⟨⟨⟨⟨⟨⟨⟨hGl,_⟩,_⟩,_⟩,_⟩,_⟩,_⟩,_⟩,hs69⟩,_⟩,_⟩,_⟩=>X6 (p:=ZZ (·+·) a b) (u:=[]) hF hbad (VY hbad) (Nat.zero_le _)) (fun _=>QA (QC rfl)<|QJ rfl rfl<|QA (QC rfl)<|QJ rfl rfl<|QA (QC rfl)<|QJ rfl rfl<|QA (QC rfl)<|QJ rfl rfl<|QH rfl (fun w F hF ⟨⟨⟨⟨⟨⟨⟨⟨⟨⟨⟨⟨hGl,_⟩,_⟩,_⟩,_⟩,_⟩,_⟩,_⟩,hs69⟩,_⟩,_⟩,_⟩,_⟩=>X6 (p:=ZZ (· - ·) a b) (u:=[]) hF hbad (VY hbad) (Nat.zero_le _)) (fun _=>QA (Qi rfl rfl rfl)<|QA (QC rfl)<|QJ rfl rfl<|QA (QC rfl)<|QJ rfl rfl<|QA (QC rfl)<|QJ rfl rfl<|QA (QC rfl)<|QJ rfl rfl<|QH rfl (fun w F hF ⟨⟨⟨⟨⟨⟨⟨⟨⟨⟨⟨⟨⟨hGl,_⟩,_⟩,_⟩,_⟩,_⟩,_⟩,_⟩,hs69⟩,_⟩,_⟩,_⟩,_⟩,_⟩=>X6 (p:=ZZ (·*·) a b) (u:=[]) hF hbad (VY hbad) (Nat.zero_le _)) (fun _=>?_)))
      refine QA (Qi rfl rfl rfl)<|QA (QC rfl)<|QJ rfl rfl<|QA (QC rfl)<|QJ rfl rfl<|QA (QC rfl)<|QJ rfl rfl<|QA (QC rfl)<|QJ rfl rfl<|QH rfl (fun w F hF ⟨⟨⟨⟨⟨⟨⟨⟨⟨⟨⟨⟨⟨⟨hGl,_⟩,_⟩,_⟩,_⟩,_⟩,_⟩,_⟩,hs69⟩,_⟩,_⟩,_⟩,_⟩,_⟩,_⟩=>X6 (p:=G5 a b) (u:=[]) hF hbad (IU hbad) (Nat.zero_le _)) (fun _=>QA (Qi rfl rfl rfl)<|QA (QC rfl)<|QJ rfl rfl<|QA (QC rfl)<|QJ rfl rfl<|QA (QU rfl rfl (show some (Value.bool ((ZG a b).1==0))=some (Value.bool true) by rw [Vt hbad];rfl))<|QA (Qi rfl rfl rfl)<|QA (QC rfl)<|QJ rfl rfl<|QA (QC rfl)<|QJ rfl rfl<|QA (QC rfl)<|QJ rfl rfl<|QA (QU rfl rfl (show some (Value.bool ((ZG a b).2==Qj [Qp a,Qp b]))=some (Value.bool true) by rw [Vt hbad];simp))<|QA (Qi rfl rfl rfl) ?_)
      refine QA (QE rfl)<|QF<|QD<|QS ?_
      exact QQ (()) rfl (.tmp rfl .nil) (rfl) (fun F ⟨⟨⟨⟨⟨⟨⟨⟨⟨⟨⟨⟨⟨⟨⟨hGl,_⟩,_⟩,_⟩,_⟩,_⟩,_⟩,_⟩,hs69⟩,_⟩,_⟩,_⟩,_⟩,_⟩,_⟩,_⟩=>trivial)
     ·
      have h0:Qj [Qp a,Qp b]=0:=by simpa using hc
      have hz:=X7 h0
      have hz1:=Q7 hz.1
      have hz2:=Q7 hz.2
      have hcm:=B8 h0
      refine QN<|QD<|QG<|QG<|QB<|QA (QC rfl)<|QA (QC rfl)<|QA (QC rfl)<|QA (QC rfl)<|QH rfl (fun w F hF ⟨⟨⟨⟨⟨⟨⟨⟨⟨⟨⟨hGl,_⟩,_⟩,_⟩,_⟩,_⟩,_⟩,_⟩,hs69⟩,_⟩,_⟩,_⟩=>F8 hF hz.1 hz.2) (fun _=>QH rfl (fun w F hF ⟨⟨⟨⟨⟨⟨⟨⟨⟨⟨⟨⟨hGl,_⟩,_⟩,_⟩,_⟩,_⟩,_⟩,_⟩,hs69⟩,_⟩,_⟩,_⟩,_⟩=>ZC (p:=ZZ (·+·) a b) (r:=JA a+JA b) hF (KF h0) (Nat.le_trans (Yr _ _) (by omega))) (fun _=>QA (ZO rfl)<|QA (QC rfl)<|QJ rfl rfl<|QA (QC rfl)<|QJ rfl rfl<|QA (QC rfl)<|QJ rfl rfl<|QA (QC rfl)<|QJ rfl rfl<|QA (QC rfl)<|QJ rfl rfl<|QH rfl (fun w F hF ⟨⟨⟨⟨⟨⟨⟨⟨⟨⟨⟨⟨⟨hGl,_⟩,_⟩,_⟩,_⟩,_⟩,_⟩,_⟩,hs69⟩,_⟩,_⟩,_⟩,_⟩,_⟩=>Fy hF hz.1 hz.2) (fun _=>QJ rfl rfl<|QH rfl (fun w F hF ⟨⟨⟨⟨⟨⟨⟨⟨⟨⟨⟨⟨⟨⟨hGl,_⟩,_⟩,_⟩,_⟩,_⟩,_⟩,_⟩,hs69⟩,_⟩,_⟩,_⟩,_⟩,_⟩,_⟩=>ZC (p:=ZZ (· - ·) a b) (r:=JA a - JA b) hF (KF h0) (Nat.le_trans (Rg _ _) (by omega))) (fun _=>?_))))
      refine QJ rfl rfl<|QA (ZO rfl)<|QA (Qh rfl rfl rfl)<|QA (QC rfl)<|QJ rfl rfl<|QA (QC rfl)<|QJ rfl rfl<|QA (QC rfl)<|QJ rfl rfl<|QA (QC rfl)<|QJ rfl rfl<|QA (QC rfl)<|QJ rfl rfl<|QH rfl (fun w F hF ⟨⟨⟨⟨⟨⟨⟨⟨⟨⟨⟨⟨⟨⟨⟨hGl,_⟩,_⟩,_⟩,_⟩,_⟩,_⟩,_⟩,hs69⟩,_⟩,_⟩,_⟩,_⟩,_⟩,_⟩,_⟩=>F2 hF hz.1 hz.2) (fun _=>QJ rfl rfl<|QH rfl (fun w F hF ⟨⟨⟨⟨⟨⟨⟨⟨⟨⟨⟨⟨⟨⟨⟨⟨hGl,_⟩,_⟩,_⟩,_⟩,_⟩,_⟩,_⟩,hs69⟩,_⟩,_⟩,_⟩,_⟩,_⟩,_⟩,_⟩,_⟩=>ZC (p:=ZZ (·*·) a b) (r:=JA a*JA b) hF (KF h0) (Nat.le_trans (J2 _ _) (by omega))) (fun _=>QJ rfl rfl<|QA (ZO rfl)<|QA (Qh rfl rfl rfl)<|QA (QC rfl)<|QJ rfl rfl<|QA (QC rfl)<|QJ rfl rfl<|QA (QU rfl rfl (show some (Value.bool (!((ZG a b).2==0)))=some (Value.bool false) by rw [hcm];rfl))<|QA (Qh rfl rfl rfl) ?_))
      refine QA (QC rfl)<|QJ rfl rfl<|QA (QC rfl)<|QJ rfl rfl<|QA (QC rfl)<|QJ rfl rfl<|QA (QC rfl)<|QJ rfl rfl<|QH rfl (fun w F hF ⟨⟨⟨⟨⟨⟨⟨⟨⟨⟨⟨⟨⟨⟨⟨⟨⟨hGl,_⟩,_⟩,_⟩,_⟩,_⟩,_⟩,_⟩,hs69⟩,_⟩,_⟩,_⟩,_⟩,_⟩,_⟩,_⟩,_⟩,_⟩=>F5 hF hz.1 hz.2) (fun _=>QJ rfl rfl<|QA (QU rfl rfl (show some (Value.bool (!((ZG a b).1==Wz (JA a) (JA b))))=some (Value.bool false) by rw [hcm];simp))<|QA (Qh rfl rfl rfl)<|QF<|QD ?_)
      refine QO rfl (fun hc=>?_) (fun hc=>?_)
      ·exact absurd hc (by simp)
      ·
       refine QN<|QD<|QG<|QG<|QB<|QA (QC rfl)<|QH rfl (fun w F hF ⟨⟨⟨⟨⟨⟨⟨⟨⟨⟨⟨⟨⟨⟨⟨⟨⟨⟨hGl,_⟩,_⟩,_⟩,_⟩,_⟩,_⟩,_⟩,hs69⟩,_⟩,_⟩,_⟩,_⟩,_⟩,_⟩,_⟩,_⟩,_⟩,_⟩=>Fx hF) (fun _=>QF<|QD ?_)
       refine QO rfl (fun hc=>?_) (fun hc=>?_)
       ·
        have hzb:b=[48]:=by simpa using hc
        refine QG<|QB<|QA (QC rfl)<|QA (QC rfl)<|QH rfl (fun w F hF ⟨⟨⟨⟨⟨⟨⟨⟨⟨⟨⟨⟨⟨⟨⟨⟨⟨⟨⟨hGl,_⟩,_⟩,_⟩,_⟩,_⟩,_⟩,_⟩,hs69⟩,_⟩,_⟩,_⟩,_⟩,_⟩,_⟩,_⟩,_⟩,_⟩,_⟩,_⟩=>X6 (p:=G5 a b) (d:=6) (u:=[]) hF (by decide) (div_zero h0 hzb) (Nat.zero_le _)) (fun _=>QA (QE rfl)<|QF<|QD<|QS ?_)
        exact QQ (()) rfl (.tmp rfl .nil) (rfl) (fun F ⟨⟨⟨⟨⟨⟨⟨⟨⟨⟨⟨⟨⟨⟨⟨⟨⟨⟨⟨⟨hGl,_⟩,_⟩,_⟩,_⟩,_⟩,_⟩,_⟩,hs69⟩,_⟩,_⟩,_⟩,_⟩,_⟩,_⟩,_⟩,_⟩,_⟩,_⟩,_⟩,_⟩=>trivial)
       ·
        have hzb:¬ b=[48]:=by simpa using hc
        have hnb:(JA b).num≠0:=fun e=>hzb ((val_zero hz.2).1 e)
        refine QN<|QD<|QG<|QB<|QA (QC rfl)<|QA (QC rfl)<|QA (QC rfl)<|QA (QC rfl)<|QH rfl (fun w F hF ⟨⟨⟨⟨⟨⟨⟨⟨⟨⟨⟨⟨⟨⟨⟨⟨⟨⟨⟨hGl,_⟩,_⟩,_⟩,_⟩,_⟩,_⟩,_⟩,hs69⟩,_⟩,_⟩,_⟩,_⟩,_⟩,_⟩,_⟩,_⟩,_⟩,_⟩,_⟩=>F4 hF hz.1 hz.2 hnb) (fun _=>QH rfl (fun w F hF ⟨⟨⟨⟨⟨⟨⟨⟨⟨⟨⟨⟨⟨⟨⟨⟨⟨⟨⟨⟨hGl,_⟩,_⟩,_⟩,_⟩,_⟩,_⟩,_⟩,hs69⟩,_⟩,_⟩,_⟩,_⟩,_⟩,_⟩,_⟩,_⟩,_⟩,_⟩,_⟩,_⟩=>ZC (p:=G5 a b) (r:=JA a / JA b) hF (Ur h0 hzb) (Nat.le_trans (Fp hnb) (by omega))) (fun _=>QA (QE rfl)<|QF<|QD<|QS ?_))
        exact QQ (()) rfl (.tmp rfl .nil) (rfl) (fun F ⟨⟨⟨⟨⟨⟨⟨⟨⟨⟨⟨⟨⟨⟨⟨⟨⟨⟨⟨⟨⟨hGl,_⟩,_⟩,_⟩,_⟩,_⟩,_⟩,_⟩,hs69⟩,_⟩,_⟩,_⟩,_⟩,_⟩,_⟩,_⟩,_⟩,_⟩,_⟩,_⟩,_⟩,_⟩=>trivial)
   ·
    have hfa:Qp a=0:=by simpa using hc
    refine QG<|QB<|QA (QC rfl)<|QA (QC rfl)<|QA (QC rfl)<|QH rfl (fun w F hF ⟨⟨⟨⟨⟨⟨⟨⟨⟨⟨hGl,_⟩,_⟩,_⟩,_⟩,_⟩,_⟩,_⟩,hs69⟩,_⟩,_⟩=>I4 hF hfa) (fun _=>QH rfl (fun w F hF ⟨⟨⟨⟨⟨⟨⟨⟨⟨⟨⟨hGl,_⟩,_⟩,_⟩,_⟩,_⟩,_⟩,_⟩,hs69⟩,_⟩,_⟩,_⟩=>ZC (p:=Dp a) hF (if_pos hfa) (by have h1:=V7 (JA a);have h2:=Gc (JA a).floor;have h3:=Q7 hfa;omega)) (fun _=>QA (ZO rfl)<|QF<|QD ?_))
    refine QO rfl (fun hc=>?_) (fun hc=>?_)
    ·exact absurd hc (by simp)
    ·
     refine QN<|QD<|QG<|QG<|QB<|QA (QC rfl)<|QA (QU rfl rfl rfl)<|QF<|QD ?_
     refine QO rfl (fun hc=>?_) (fun hc=>?_)
     ·
      have hbad:¬ Qj [Qp a,Qp b]=0:=by simpa using hc
      refine QG<|QB<|QA (QC rfl)<|QA (QC rfl)<|QA (QC rfl)<|QH rfl (fun w F hF ⟨⟨⟨⟨⟨⟨⟨⟨⟨⟨⟨⟨hGl,_⟩,_⟩,_⟩,_⟩,_⟩,_⟩,_⟩,hs69⟩,_⟩,_⟩,_⟩,_⟩=>X6 (p:=ZZ (·+·) a b) (u:=[]) hF hbad (VY hbad) (Nat.zero_le _)) (fun _=>QA (QC rfl)<|QJ rfl rfl<|QA (QC rfl)<|QJ rfl rfl<|QA (QC rfl)<|QJ rfl rfl<|QA (QC rfl)<|QJ rfl rfl<|QH rfl (fun w F hF ⟨⟨⟨⟨⟨⟨⟨⟨⟨⟨⟨⟨⟨hGl,_⟩,_⟩,_⟩,_⟩,_⟩,_⟩,_⟩,hs69⟩,_⟩,_⟩,_⟩,_⟩,_⟩=>X6 (p:=ZZ (· - ·) a b) (u:=[]) hF hbad (VY hbad) (Nat.zero_le _)) (fun _=>QA (Qi rfl rfl rfl)<|QA (QC rfl)<|QJ rfl rfl<|QA (QC rfl)<|QJ rfl rfl<|QA (QC rfl)<|QJ rfl rfl<|QA (QC rfl)<|QJ rfl rfl<|QH rfl (fun w F hF ⟨⟨⟨⟨⟨⟨⟨⟨⟨⟨⟨⟨⟨⟨hGl,_⟩,_⟩,_⟩,_⟩,_⟩,_⟩,_⟩,hs69⟩,_⟩,_⟩,_⟩,_⟩,_⟩,_⟩=>X6 (p:=ZZ (·*·) a b) (u:=[]) hF hbad (VY hbad) (Nat.zero_le _)) (fun _=>?_)))
      refine QA (Qi rfl rfl rfl)<|QA (QC rfl)<|QJ rfl rfl<|QA (QC rfl)<|QJ rfl rfl<|QA (QC rfl)<|QJ rfl rfl<|QA (QC rfl)<|QJ rfl rfl<|QH rfl (fun w F hF ⟨⟨⟨⟨⟨⟨⟨⟨⟨⟨⟨⟨⟨⟨⟨hGl,_⟩,_⟩,_⟩,_⟩,_⟩,_⟩,_⟩,hs69⟩,_⟩,_⟩,_⟩,_⟩,_⟩,_⟩,_⟩=>X6 (p:=G5 a b) (u:=[]) hF hbad (IU hbad) (Nat.zero_le _)) (fun _=>QA (Qi rfl rfl rfl)<|QA (QC rfl)<|QJ rfl rfl<|QA (QC rfl)<|QJ rfl rfl<|QA (QU rfl rfl (show some (Value.bool ((ZG a b).1==0))=some (Value.bool true) by rw [Vt hbad];rfl))<|QA (Qi rfl rfl rfl)<|QA (QC rfl)<|QJ rfl rfl<|QA (QC rfl)<|QJ rfl rfl<|QA (QC rfl)<|QJ rfl rfl<|QA (QU rfl rfl (show some (Value.bool ((ZG a b).2==Qj [Qp a,Qp b]))=some (Value.bool true) by rw [Vt hbad];simp))<|QA (Qi rfl rfl rfl) ?_)
      refine QA (QE rfl)<|QF<|QD<|QS ?_
      exact QQ (()) rfl (.tmp rfl .nil) (rfl) (fun F ⟨⟨⟨⟨⟨⟨⟨⟨⟨⟨⟨⟨⟨⟨⟨⟨hGl,_⟩,_⟩,_⟩,_⟩,_⟩,_⟩,_⟩,hs69⟩,_⟩,_⟩,_⟩,_⟩,_⟩,_⟩,_⟩,_⟩=>trivial)
     ·
      have h0:Qj [Qp a,Qp b]=0:=by simpa using hc
      have hz:=X7 h0
      have hz1:=Q7 hz.1
      have hz2:=Q7 hz.2
      have hcm:=B8 h0
      refine QN<|QD<|QG<|QG<|QB<|QA (QC rfl)<|QA (QC rfl)<|QA (QC rfl)<|QA (QC rfl)<|QH rfl (fun w F hF ⟨⟨⟨⟨⟨⟨⟨⟨⟨⟨⟨⟨hGl,_⟩,_⟩,_⟩,_⟩,_⟩,_⟩,_⟩,hs69⟩,_⟩,_⟩,_⟩,_⟩=>F8 hF hz.1 hz.2) (fun _=>QH rfl (fun w F hF ⟨⟨⟨⟨⟨⟨⟨⟨⟨⟨⟨⟨⟨hGl,_⟩,_⟩,_⟩,_⟩,_⟩,_⟩,_⟩,hs69⟩,_⟩,_⟩,_⟩,_⟩,_⟩=>ZC (p:=ZZ (·+·) a b) (r:=JA a+JA b) hF (KF h0) (Nat.le_trans (Yr _ _) (by omega))) (fun _=>QA (ZO rfl)<|QA (QC rfl)<|QJ rfl rfl<|QA (QC rfl)<|QJ rfl rfl<|QA (QC rfl)<|QJ rfl rfl<|QA (QC rfl)<|QJ rfl rfl<|QA (QC rfl)<|QJ rfl rfl<|QH rfl (fun w F hF ⟨⟨⟨⟨⟨⟨⟨⟨⟨⟨⟨⟨⟨⟨hGl,_⟩,_⟩,_⟩,_⟩,_⟩,_⟩,_⟩,hs69⟩,_⟩,_⟩,_⟩,_⟩,_⟩,_⟩=>Fy hF hz.1 hz.2) (fun _=>QJ rfl rfl<|QH rfl (fun w F hF ⟨⟨⟨⟨⟨⟨⟨⟨⟨⟨⟨⟨⟨⟨⟨hGl,_⟩,_⟩,_⟩,_⟩,_⟩,_⟩,_⟩,hs69⟩,_⟩,_⟩,_⟩,_⟩,_⟩,_⟩,_⟩=>ZC (p:=ZZ (· - ·) a b) (r:=JA a - JA b) hF (KF h0) (Nat.le_trans (Rg _ _) (by omega))) (fun _=>?_))))
      refine QJ rfl rfl<|QA (ZO rfl)<|QA (Qh rfl rfl rfl)<|QA (QC rfl)<|QJ rfl rfl<|QA (QC rfl)<|QJ rfl rfl<|QA (QC rfl)<|QJ rfl rfl<|QA (QC rfl)<|QJ rfl rfl<|QA (QC rfl)<|QJ rfl rfl<|QH rfl (fun w F hF ⟨⟨⟨⟨⟨⟨⟨⟨⟨⟨⟨⟨⟨⟨⟨⟨hGl,_⟩,_⟩,_⟩,_⟩,_⟩,_⟩,_⟩,hs69⟩,_⟩,_⟩,_⟩,_⟩,_⟩,_⟩,_⟩,_⟩=>F2 hF hz.1 hz.2) (fun _=>QJ rfl rfl<|QH rfl (fun w F hF ⟨⟨⟨⟨⟨⟨⟨⟨⟨⟨⟨⟨⟨⟨⟨⟨⟨hGl,_⟩,_⟩,_⟩,_⟩,_⟩,_⟩,_⟩,hs69⟩,_⟩,_⟩,_⟩,_⟩,_⟩,_⟩,_⟩,_⟩,_⟩=>ZC (p:=ZZ (·*·) a b) (r:=JA a*JA b) hF (KF h0) (Nat.le_trans (J2 _ _) (by omega))) (fun _=>QJ rfl rfl<|QA (ZO rfl)<|QA (Qh rfl rfl rfl)<|QA (QC rfl)<|QJ rfl rfl<|QA (QC rfl)<|QJ rfl rfl<|QA (QU rfl rfl (show some (Value.bool (!((ZG a b).2==0)))=some (Value.bool false) by rw [hcm];rfl))<|QA (Qh rfl rfl rfl) ?_))
      refine QA (QC rfl)<|QJ rfl rfl<|QA (QC rfl)<|QJ rfl rfl<|QA (QC rfl)<|QJ rfl rfl<|QA (QC rfl)<|QJ rfl rfl<|QH rfl (fun w F hF ⟨⟨⟨⟨⟨⟨⟨⟨⟨⟨⟨⟨⟨⟨⟨⟨⟨⟨hGl,_⟩,_⟩,_⟩,_⟩,_⟩,_⟩,_⟩,hs69⟩,_⟩,_⟩,_⟩,_⟩,_⟩,_⟩,_⟩,_⟩,_⟩,_⟩=>F5 hF hz.1 hz.2) (fun _=>QJ rfl rfl<|QA (QU rfl rfl (show some (Value.bool (!((ZG a b).1==Wz (JA a) (JA b))))=some (Value.bool false) by rw [hcm];simp))<|QA (Qh rfl rfl rfl)<|QF<|QD ?_)
      refine QO rfl (fun hc=>?_) (fun hc=>?_)
      ·exact absurd hc (by simp)
      ·
       refine QN<|QD<|QG<|QG<|QB<|QA (QC rfl)<|QH rfl (fun w F hF ⟨⟨⟨⟨⟨⟨⟨⟨⟨⟨⟨⟨⟨⟨⟨⟨⟨⟨⟨hGl,_⟩,_⟩,_⟩,_⟩,_⟩,_⟩,_⟩,hs69⟩,_⟩,_⟩,_⟩,_⟩,_⟩,_⟩,_⟩,_⟩,_⟩,_⟩,_⟩=>Fx hF) (fun _=>QF<|QD ?_)
       refine QO rfl (fun hc=>?_) (fun hc=>?_)
       ·
        have hzb:b=[48]:=by simpa using hc
        refine QG<|QB<|QA (QC rfl)<|QA (QC rfl)<|QH rfl (fun w F hF ⟨⟨⟨⟨⟨⟨⟨⟨⟨⟨⟨⟨⟨⟨⟨⟨⟨⟨⟨⟨hGl,_⟩,_⟩,_⟩,_⟩,_⟩,_⟩,_⟩,hs69⟩,_⟩,_⟩,_⟩,_⟩,_⟩,_⟩,_⟩,_⟩,_⟩,_⟩,_⟩,_⟩=>X6 (p:=G5 a b) (d:=6) (u:=[]) hF (by decide) (div_zero h0 hzb) (Nat.zero_le _)) (fun _=>QA (QE rfl)<|QF<|QD<|QS ?_)
        exact QQ (()) rfl (.tmp rfl .nil) (rfl) (fun F ⟨⟨⟨⟨⟨⟨⟨⟨⟨⟨⟨⟨⟨⟨⟨⟨⟨⟨⟨⟨⟨hGl,_⟩,_⟩,_⟩,_⟩,_⟩,_⟩,_⟩,hs69⟩,_⟩,_⟩,_⟩,_⟩,_⟩,_⟩,_⟩,_⟩,_⟩,_⟩,_⟩,_⟩,_⟩=>trivial)
       ·
        have hzb:¬ b=[48]:=by simpa using hc
        have hnb:(JA b).num≠0:=fun e=>hzb ((val_zero hz.2).1 e)
        refine QN<|QD<|QG<|QB<|QA (QC rfl)<|QA (QC rfl)<|QA (QC rfl)<|QA (QC rfl)<|QH rfl (fun w F hF ⟨⟨⟨⟨⟨⟨⟨⟨⟨⟨⟨⟨⟨⟨⟨⟨⟨⟨⟨⟨hGl,_⟩,_⟩,_⟩,_⟩,_⟩,_⟩,_⟩,hs69⟩,_⟩,_⟩,_⟩,_⟩,_⟩,_⟩,_⟩,_⟩,_⟩,_⟩,_⟩,_⟩=>F4 hF hz.1 hz.2 hnb) (fun _=>QH rfl (fun w F hF ⟨⟨⟨⟨⟨⟨⟨⟨⟨⟨⟨⟨⟨⟨⟨⟨⟨⟨⟨⟨⟨hGl,_⟩,_⟩,_⟩,_⟩,_⟩,_⟩,_⟩,hs69⟩,_⟩,_⟩,_⟩,_⟩,_⟩,_⟩,_⟩,_⟩,_⟩,_⟩,_⟩,_⟩,_⟩=>ZC (p:=G5 a b) (r:=JA a / JA b) hF (Ur h0 hzb) (Nat.le_trans (Fp hnb) (by omega))) (fun _=>QA (QE rfl)<|QF<|QD<|QS ?_))
        exact QQ (()) rfl (.tmp rfl .nil) (rfl) (fun F ⟨⟨⟨⟨⟨⟨⟨⟨⟨⟨⟨⟨⟨⟨⟨⟨⟨⟨⟨⟨⟨⟨hGl,_⟩,_⟩,_⟩,_⟩,_⟩,_⟩,_⟩,hs69⟩,_⟩,_⟩,_⟩,_⟩,_⟩,_⟩,_⟩,_⟩,_⟩,_⟩,_⟩,_⟩,_⟩,_⟩=>trivial)
end
end Go.Proofs.YtknegjaeoffnbaaGreatDoor
