/- Steps of the proof of the theorem in the last file. -/
import Derived.Test.YtknegjaeoffnbaaGreatDoorF0XCm
set_option linter.all false
set_option maxHeartbeats 4000000
open List renaming range → aa,mem_cons_self → ag,mem_cons_of_mem → ah,map_append → au,not_mem_nil → aw,mem_cons → ay,getElem?_toArray → aA,range_succ → aB,length_map → aC,foldl_cons → aD,map_cons → aF,map_congr_left → aL,flatMap_append → aM,cons_append → aO,nil_append → aP,map_map → aR,map_id → aS
open Rat renaming mul_le_mul_of_nonneg_left → ab,le_trans → ae,le_refl → af,mul_le_mul_of_nonneg_right → ai,divInt → ak,pow_zero → aq,pow_succ → ar,le_total → ax,pow_nonneg → az,le_of_lt → aG,mul_one → aJ
open Nat renaming le_trans → aj,le_refl → av,mod_lt → aE,zero_add → aH,mul_zero → aI,mul_le_mul_right → aK
open Bool renaming and_eq_true → ao,not_eq_false' → aN,eq_iff_iff → aQ
open Go.Value renaming bool → aT
namespace Go.Proofs.YtknegjaeoffnbaaGreatDoor
open Go.RowKit Ig
def sIn (x:Rat) (a:Rat×Rat):Prop:=a.1≤x∧x≤a.2
theorem widen_le (s:Rat×Rat) (x:Rat):(ZJ s x).1≤s.1∧s.2≤(ZJ s x).2∧sIn x (ZJ s x)∨¬ s.1≤s.2:=by
 by_cases h:s.1≤s.2
 ·left
  unfold ZJ sIn
  dsimp only
  by_cases h1:x<s.1
  ·rw [if_pos ((vP x s.1).2 h1),if_neg (fun k=>by have:=(Lh x s.2).1 k;grind)]
   grind
  ·rw [if_neg (fun k=>h1 ((vP x s.1).1 k))]
   by_cases h2:s.2<x
   ·rw [if_pos ((Lh x s.2).2 h2)];grind
   ·rw [if_neg (fun k=>h2 ((Lh x s.2).1 k))];grind
 ·exact .inr h
theorem around_fold:∀ (l:List Rat) (s:Rat×Rat),s.1≤s.2→((l.foldl ZJ s).1≤s.1∧s.2≤(l.foldl ZJ s).2)∧∀ y∈l,sIn y (l.foldl ZJ s)
 |[],s,_=>⟨⟨af,af⟩,fun y hy=>by cases hy⟩
 |x::l,s,h=>by
  rcases widen_le s x with ⟨h1,h2,h3⟩ | h1
  ·obtain ⟨⟨g1,g2⟩,g3⟩:=around_fold l (ZJ s x) (by unfold sIn at h3;grind)
   unfold sIn at h3
   refine⟨⟨ae g1 h1,ae h2 g2⟩,fun y hy=>?_⟩
   rcases List.mem_cons.1 hy with rfl | hy
   ·exact⟨ae g1 h3.1,ae h3.2 g2⟩
   ·exact g3 y hy
  ·exact absurd h h1
theorem around_mem {r:Rat} {l:List Rat} {y:Rat} (h:y∈r::l):sIn y (YH r l):=by
 obtain ⟨h1,h2⟩:=around_fold l (r,r) af
 rcases List.mem_cons.1 h with rfl | h
 ·exact h1
 ·exact h2 y h
theorem around_end (l:List Rat):∀ (s:Rat×Rat),((l.foldl ZJ s).1=s.1∨(l.foldl ZJ s).1∈l)∧((l.foldl ZJ s).2=s.2∨(l.foldl ZJ s).2∈l):=by
 induction l with
 |nil=>intro s;exact⟨.inl rfl,.inl rfl⟩
 |cons x l ih =>
  intro s
  obtain ⟨h1,h2⟩:=ih (ZJ s x)
  rw [aD]
  have w1:(ZJ s x).1=s.1∨(ZJ s x).1=x:=by unfold ZJ;dsimp only;split;exact .inr rfl;exact .inl rfl
  have w2:(ZJ s x).2=s.2∨(ZJ s x).2=x:=by unfold ZJ;dsimp only;split;exact .inr rfl;exact .inl rfl
  constructor
  ·rcases h1 with h1 | h1
   ·rw [h1];rcases w1 with w | w
    ·exact .inl w
    ·exact .inr (by rw [w];exact ag)
   ·exact .inr (ah _ h1)
  ·rcases h2 with h2 | h2
   ·rw [h2];rcases w2 with w | w
    ·exact .inl w
    ·exact .inr (by rw [w];exact ag)
   ·exact .inr (ah _ h2)
theorem around_ends (r:Rat) (l:List Rat):(YH r l).1∈r::l∧(YH r l).2∈r::l:=by
 obtain ⟨h1,h2⟩:=around_end l (r,r)
 unfold YH
 refine⟨?_,?_⟩
 ·rcases h1 with h | h
  ·rw [h];exact ag
  ·exact ah _ h
 ·rcases h2 with h | h
  ·rw [h];exact ag
  ·exact ah _ h
def sSub (a b:Rat×Rat):Prop:=b.1≤a.1∧a.1≤a.2∧a.2≤b.2
theorem sub_of {a b:Rat×Rat} (h1:sIn a.1 b) (h2:sIn a.2 b) (h:a.1≤a.2):sSub a b:=⟨h1.1,h,h2.2⟩
theorem times_ord (a b:Rat×Rat):(YK a b).1≤(YK a b).2:=by
 have:=around_mem (r:=a.1*b.1) (l:=[a.1*b.2,a.2*b.1,a.2*b.2]) ag
 exact ae this.1 this.2
theorem times_mem {x y:Rat} {a b:Rat×Rat} (hx:sIn x a) (hy:sIn y b):sIn (x*y) (YK a b):=by
 have c11:sIn (a.1*b.1) (YK a b):=around_mem (by simp)
 have c12:sIn (a.1*b.2) (YK a b):=around_mem (by simp)
 have c21:sIn (a.2*b.1) (YK a b):=around_mem (by simp)
 have c22:sIn (a.2*b.2) (YK a b):=around_mem (by simp)
 generalize YK a b=t at *
 obtain ⟨x1,x2⟩:=hx
 obtain ⟨y1,y2⟩:=hy
 unfold sIn at *
 have e1:sIn (a.1*y) t:=by
  rcases ax (a:=0) (b:=a.1) with h | h
  ·have:=ab y1 h
   have:=ab y2 h
   unfold sIn;grind
  ·have h':0≤-a.1:=by grind
   have:=ab y1 h'
   have:=ab y2 h'
   unfold sIn;grind
 have e2:sIn (a.2*y) t:=by
  rcases ax (a:=0) (b:=a.2) with h | h
  ·have:=ab y1 h
   have:=ab y2 h
   unfold sIn;grind
  ·have h':0≤-a.2:=by grind
   have:=ab y1 h'
   have:=ab y2 h'
   unfold sIn;grind
 unfold sIn at e1 e2
 rcases ax (a:=0) (b:=y) with h | h
 ·have:=ai x1 h
  have:=ai x2 h
  grind
 ·have h':0≤-y:=by grind
  have:=ai x1 h'
  have:=ai x2 h'
  grind
theorem sIn.sub {x:Rat} {a b:Rat×Rat} (h:sIn x a) (k:sSub a b):sIn x b:=⟨ae k.1 h.1,ae h.2 k.2.2⟩
theorem sSub.ends {a b:Rat×Rat} (k:sSub a b):sIn a.1 b∧sIn a.2 b:=⟨⟨k.1,ae k.2.1 k.2.2⟩,⟨ae k.1 k.2.1,k.2.2⟩⟩
theorem times_sub {a b c d:Rat×Rat} (h:sSub a c) (k:sSub b d):sSub (YK a b) (YK c d):=by
 obtain ⟨a1,a2⟩:=h.ends
 obtain ⟨b1,b2⟩:=k.ends
 have all:∀ z∈[a.1*b.1,a.1*b.2,a.2*b.1,a.2*b.2],sIn z (YK c d):=fun z hz=>by
  simp only [ay,aw,or_false] at hz
  rcases hz with rfl | rfl | rfl | rfl
  ·exact times_mem a1 b1
  ·exact times_mem a1 b2
  ·exact times_mem a2 b1
  ·exact times_mem a2 b2
 obtain ⟨h1,h2⟩:=around_ends (a.1*b.1) [a.1*b.2,a.2*b.1,a.2*b.2]
 exact sub_of (all _ h1) (all _ h2) (times_ord a b)
theorem ZV {x y:Rat} (h0:0≤x) (h:x≤y):∀ n:Nat,x^n≤y^n
 |0=>by rw [aq,aq];exact af
 |n+1=>by
  have ih:=ZV h0 h n
  have hx:0≤x^n:=az h0
  rw [ar,ar]
  have h1:=ab h hx
  have h2:=ai ih (ae h0 h)
  exact ae h1 h2
theorem neg_pow (x:Rat):∀ n:Nat,(-x)^(2*n)=x^(2*n)∧(-x)^(2*n+1) = -(x^(2*n+1))
 |0=>by
  refine⟨by rw [aI,aq,aq],?_⟩
  rw [ar,ar,aI,aq,aq];grind
 |n+1=>by
  obtain ⟨h1,h2⟩:=neg_pow x n
  have e:(-x)^(2*(n+1))=x^(2*(n+1)):=by
   rw [show 2*(n+1)=2*n+1+1 by omega,ar,h2,ar x];grind
  exact⟨e,by rw [ar,e,ar x];grind⟩
theorem sgn_lt (x:Rat):E7 x.num<0↔x<0:=by
 rw [qf]
 by_cases h:x<0
 ·rw [if_pos h];exact⟨fun _=>h,fun _=>by decide⟩
 ·rw [if_neg h];refine⟨fun k=>?_,fun k=>absurd k h⟩
  split at k<;>omega
theorem sgn_pos (x:Rat):E7 x.num>0↔0<x:=by
 rw [qf]
 by_cases h:x<0
 ·rw [if_pos h];refine⟨fun k=>by omega,fun k=>?_⟩;grind
 ·rw [if_neg h]
  by_cases e:x=0
  ·rw [if_pos e];refine⟨fun k=>by omega,fun k=>?_⟩;grind
  ·rw [if_neg e];refine⟨fun _=>?_,fun _=>by decide⟩;grind
theorem powQ_mem {x:Rat} {a:Rat×Rat} (hx:sIn x a) {n:Int} (hn:0≤n):sIn (x^n.toNat) (Vo a n):=by
 have c1:sIn (a.1^n.toNat) (YH (a.1^n.toNat) [a.2^n.toNat]):=around_mem (by simp)
 have c2:sIn (a.2^n.toNat) (YH (a.1^n.toNat) [a.2^n.toNat]):=around_mem (by simp)
 unfold Vo
 generalize YH (a.1^n.toNat) [a.2^n.toNat]=t at *
 obtain ⟨m,hm⟩:∃ m,n.toNat=2*m∨n.toNat=2*m+1:=⟨n.toNat / 2,by omega⟩
 obtain ⟨x1,x2⟩:=hx
 unfold sIn at c1 c2
 by_cases hc:(decide (n>0)&&(decide (n%2=0)&&(decide (E7 a.1.num<0)&&decide (E7 a.2.num>0))))=true
 ·rw [if_pos hc]
  simp only [ao,decide_eq_true_eq] at hc
  obtain ⟨_,h2,h3,h4⟩:=hc
  rcases hm with hm | hm
  ·rw [hm] at c1 c2 ⊢
   refine⟨?_,?_⟩
   ·rcases ax (a:=0) (b:=x) with h | h
    ·exact az h
    ·rw [← (neg_pow x m).1];exact az (by grind)
   ·rcases ax (a:=0) (b:=x) with h | h
    ·exact ae (ZV h x2 _) c2.2
    ·have:=ZV (x:=-x) (y:=-a.1) (by grind) (by grind) (2*m)
     rw [(neg_pow x m).1,(neg_pow a.1 m).1] at this
     exact ae this c1.2
  ·omega
 ·rw [if_neg hc]
  rcases hm with hm | hm
  ·
   rw [hm] at c1 c2 ⊢
   have hside:0≤a.1∨a.2≤0∨m=0:=by
    by_cases h3:a.1<0
    ·by_cases h4:0<a.2
     ·right;right
      rcases Nat.eq_zero_or_pos m with g | g
      ·exact g
      ·exfalso;apply hc
       simp only [ao,decide_eq_true_eq]
       exact⟨by omega,by omega,(sgn_lt _).2 h3,(sgn_pos _).2 h4⟩
     ·right;left;grind
    ·left;grind
   rcases hside with h | h | h
   ·exact⟨ae c1.1 (ZV h x1 _),ae (ZV (ae h x1) x2 _) c2.2⟩
   ·have p1:=ZV (x:=-a.2) (y:=-x) (by grind) (by grind) (2*m)
    have p2:=ZV (x:=-x) (y:=-a.1) (by grind) (by grind) (2*m)
    rw [(neg_pow x m).1,(neg_pow a.2 m).1] at p1
    rw [(neg_pow x m).1,(neg_pow a.1 m).1] at p2
    exact⟨ae c2.1 p1,ae p2 c1.2⟩
   ·subst h
    rw [aI,aq] at c1 ⊢
    exact c1
  ·
   have odd:∀ {u v:Rat},u≤v→u^(2*m+1)≤v^(2*m+1):=fun {u v} huv=>by
    rcases ax (a:=0) (b:=u) with h | h
    ·exact ZV h huv _
    ·rcases ax (a:=0) (b:=v) with g | g
     ·have h1:0≤(-u)^(2*m+1):=az (by grind)
      have h2:0≤v^(2*m+1):=az g
      rw [(neg_pow u m).2] at h1
      grind
     ·have:=ZV (x:=-v) (y:=-u) (by grind) (by grind) (2*m+1)
      rw [(neg_pow u m).2,(neg_pow v m).2] at this
      grind
   rw [hm] at c1 c2 ⊢
   exact⟨ae c1.1 (odd x1),ae (odd x2) c2.2⟩
theorem pow_ends (a:Rat×Rat) (h:a.1≤a.2) {n:Int} (hn:0≤n):(∃ x,sIn x a∧(Vo a n).1=x^n.toNat)∧(∃ x,sIn x a∧(Vo a n).2=x^n.toNat):=by
 obtain ⟨h1,h2⟩:=around_ends (a.1^n.toNat) [a.2^n.toNat]
 have key:∀ z∈[a.1^n.toNat,a.2^n.toNat],∃ x,sIn x a∧z=x^n.toNat:=fun z hz=>by
  simp only [ay,aw,or_false] at hz
  rcases hz with rfl | rfl
  ·exact⟨a.1,⟨af,h⟩,rfl⟩
  ·exact⟨a.2,⟨h,af⟩,rfl⟩
 unfold Vo
 refine⟨?_,key _ h2⟩
 dsimp only
 split
 ·rename_i hc
  simp only [ao,decide_eq_true_eq] at hc
  have h3:=(sgn_lt _).1 hc.2.2.1
  have h4:=(sgn_pos _).1 hc.2.2.2
  refine⟨0,⟨aG h3,aG h4⟩,?_⟩
  obtain ⟨m,hm⟩:∃ m,n.toNat=m+1:=⟨n.toNat - 1,by omega⟩
  rw [hm,ar,Rat.mul_zero]
 ·exact key _ h1
theorem pow_ord (a:Rat×Rat) (h:a.1≤a.2) {n:Int} (hn:0≤n):(Vo a n).1≤(Vo a n).2:=by
 have:=powQ_mem (x:=a.1) (a:=a) ⟨af,h⟩ hn
 exact ae this.1 this.2
theorem pow_sub {a b:Rat×Rat} (h:sSub a b) {n:Int} (hn:0≤n):sSub (Vo a n) (Vo b n):=by
 obtain ⟨⟨x,hx,e1⟩,⟨y,hy,e2⟩⟩:=pow_ends a h.2.1 hn
 exact sub_of (by rw [e1];exact powQ_mem (hx.sub h) hn) (by rw [e2];exact powQ_mem (hy.sub h) hn) (pow_ord a h.2.1 hn)
section
variable {xs:List Rat} {rs bs:List (Rat×Rat)} {ks:List Int}
theorem valS_mem {c:Rat} {r:Rat×Rat} (hc:sIn c r) (hk:∀ k∈ks,0≤k) (hx:∀ i,i<rs.length→sIn (el xs i) (el rs i)):∀ m,m≤rs.length→sIn (W1 c xs ks m) (V7 r rs ks m)
 |0,_=>hc
 |m+1,hm=>by
  have ih:=valS_mem hc hk hx m (by omega)
  have h0:=Sb hk m
  rw [Vk,Vj]
  by_cases g:Qa ks m>0
  ·rw [if_pos g];exact times_mem ih (powQ_mem (hx m (by omega)) h0)
  ·rw [if_neg g,show(Qa ks m).toNat=0 by omega,aq,aJ];exact ih
theorem valS_sub {r q:Rat×Rat} (hr:sSub r q) (hk:∀ k∈ks,0≤k) (hx:∀ i,i<rs.length→sSub (el rs i) (el bs i)):∀ m,m≤rs.length→sSub (V7 r rs ks m) (V7 q bs ks m)
 |0,_=>hr
 |m+1,hm=>by
  have ih:=valS_sub hr hk hx m (by omega)
  have h0:=Sb hk m
  rw [Vj,Vj]
  by_cases g:Qa ks m>0
  ·rw [if_pos g,if_pos g];exact times_sub ih (pow_sub (hx m (by omega)) h0)
  ·rw [if_neg g,if_neg g];exact ih
theorem evalS_mem {l:List Tm} (hl:∀ t∈l,t.2.length≤rs.length∧∀ k∈t.2,0≤k) (hx:∀ i,i<rs.length→sIn (el xs i) (el rs i)):sIn (Zp xs l) (X4 rs l):=by
 have key:∀ (l:List Tm) (a:Rat) (r:Rat×Rat),(∀ t∈l,t.2.length≤rs.length∧∀ k∈t.2,0≤k)→sIn a r→sIn (l.foldl (fun a t=>a+W1 t.1 xs t.2 t.2.length) a) (l.foldl (fun a t=>UT a (V7 (t.1,t.1) rs t.2 t.2.length)) r):=by
  intro l
  induction l with
  |nil=>intro a r _ h;exact h
  |cons t l ih =>
   intro a r hl h
   obtain ⟨h1,h2⟩:=hl t ag
   have hv:=valS_mem (c:=t.1) (r:=(t.1,t.1)) ⟨af,af⟩ h2 hx t.2.length h1
   refine ih _ _ (fun u hu=>hl u (ah _ hu)) ?_
   unfold sIn UT at *
   dsimp only at *
   grind
 exact key l 0 (0,0) hl ⟨af,af⟩
theorem evalS_sub {l:List Tm} (hl:∀ t∈l,t.2.length≤rs.length∧∀ k∈t.2,0≤k) (hx:∀ i,i<rs.length→sSub (el rs i) (el bs i)):sSub (X4 rs l) (X4 bs l):=by
 have key:∀ (l:List Tm) (r q:Rat×Rat),(∀ t∈l,t.2.length≤rs.length∧∀ k∈t.2,0≤k)→sSub r q→sSub (l.foldl (fun a t=>UT a (V7 (t.1,t.1) rs t.2 t.2.length)) r) (l.foldl (fun a t=>UT a (V7 (t.1,t.1) bs t.2 t.2.length)) q):=by
  intro l
  induction l with
  |nil=>intro r q _ h;exact h
  |cons t l ih =>
   intro r q hl h
   obtain ⟨h1,h2⟩:=hl t ag
   have hv:=valS_sub (r:=(t.1,t.1)) (q:=(t.1,t.1)) ⟨af,af,af⟩ h2 hx t.2.length h1
   refine ih _ _ (fun u hu=>hl u (ah _ hu)) ?_
   unfold sSub UT at *
   dsimp only at *
   grind
 exact key l (0,0) (0,0) hl ⟨af,af,af⟩
theorem times_one (x y:Rat):YK (x,x) (y,y)=(x*y,x*y):=by
 have h:=around_ends (x*y) [x*y,x*y,x*y]
 simp only [ay,aw,or_false,or_self] at h
 exact Prod.ext h.1 h.2
theorem pow_one (x:Rat) {n:Int} (hn:0≤n):Vo (x,x) n=(x^n.toNat,x^n.toNat):=by
 have h:=around_ends (x^n.toNat) [x^n.toNat]
 simp only [ay,aw,or_false,or_self] at h
 unfold Vo
 dsimp only
 rw [if_neg]
 ·exact Prod.ext h.1 h.2
 ·intro hc
  simp only [ao,decide_eq_true_eq] at hc
  have h3:=(sgn_lt _).1 hc.2.2.1
  have h4:=(sgn_pos _).1 hc.2.2.2
  grind
theorem valS_one {c:Rat} (hk:∀ k∈ks,0≤k) (hx:∀ i,i<rs.length→el rs i=(el xs i,el xs i)):∀ m,m≤rs.length→V7 (c,c) rs ks m=(W1 c xs ks m,W1 c xs ks m)
 |0,_=>rfl
 |m+1,hm=>by
  have ih:=valS_one (c:=c) hk hx m (by omega)
  have h0:=Sb hk m
  rw [Vk,Vj,ih,hx m (by omega)]
  by_cases g:Qa ks m>0
  ·rw [if_pos g,pow_one _ h0,times_one]
  ·rw [if_neg g,show(Qa ks m).toNat=0 by omega,aq,aJ]
theorem evalS_one {l:List Tm} (hl:∀ t∈l,t.2.length≤rs.length∧∀ k∈t.2,0≤k) (hx:∀ i,i<rs.length→el rs i=(el xs i,el xs i)):X4 rs l=(Zp xs l,Zp xs l):=by
 have key:∀ (l:List Tm) (a:Rat),(∀ t∈l,t.2.length≤rs.length∧∀ k∈t.2,0≤k)→l.foldl (fun a t=>UT a (V7 (t.1,t.1) rs t.2 t.2.length)) (a,a)=(l.foldl (fun a t=>a+W1 t.1 xs t.2 t.2.length) a,l.foldl (fun a t=>a+W1 t.1 xs t.2 t.2.length) a):=by
  intro l
  induction l with
  |nil=>intro a _;rfl
  |cons t l ih =>
   intro a hl
   obtain ⟨h1,h2⟩:=hl t ag
   rw [aD,aD,valS_one h2 hx t.2.length h1]
   exact ih _ fun u hu=>hl u (ah _ hu)
 exact key l 0 hl
end
theorem di (i:Nat):0<V3 i:=by
 unfold V3
 exact Rat.pow_pos (by decide +kernel)
theorem dy (x:Rat) (i:Nat):x / V3 i*V3 i=x:=by
 rw [Rat.div_def,Rat.mul_assoc,Rat.inv_mul_cancel _ (jk i),aJ]
theorem CR (x:Rat) (i:Nat):0≤x - Yf x i∧x - Yf x i<V3 i:=by
 have h0:=dy x i
 have hp:=di i
 unfold Yf
 generalize x / V3 i=t at h0 ⊢
 generalize V3 i=g at h0 hp ⊢
 have h1:=Rat.floor_le t
 have h2:=Rat.lt_floor_add_one t
 rw [Rat.intCast_add] at h2
 generalize ((t.floor:Int):Rat)=k at h1 h2 ⊢
 have:((1:Int):Rat)=1:=rfl
 rw [this] at h2
 have e2:t - k<1:=by grind
 have m1:=ai h1 (aG hp)
 have m2:=Rat.mul_lt_mul_of_pos_right e2 hp
 subst h0
 constructor<;>grind
theorem gF (y:Rat) (i:Nat):0≤-Yf (-y) i - y∧-Yf (-y) i - y<V3 i:=by
 have:=CR (-y) i
 constructor<;>grind
section
variable {w:World} {F:Gs}
theorem c5 {b:Int} (hb:0≤b∧b≤64):Nu b=0:=by
 unfold Nu;rw [if_neg (by omega)]
theorem vr {x:Rat} {b:Int} {k:Nat} (hx:JL x≤k) (hb:b≤64):JL (ak (x*((two b:Int):Rat)).floor (two b))≤k+140:=by
 have h1:=J9 x ((two b:Int):Rat)
 have h2:=Gr (two b)
 have h3:=II hb
 have h4:=D8 (x*((two b:Int):Rat))
 have h5:=D7 (n:=(x*((two b:Int):Rat)).floor) (b:=b) (k:=k+129) (by omega) hb
 omega
theorem SR {x:Rat} {b:Int} {k:Nat} (hx:JL x≤k) (hb:b≤64):JL (Yf x b.toNat)≤k+140:=by
 have h:=congrArg Prod.fst (dL (x,x) b)
 have:=vr hx hb
 unfold xw at h
 dsimp only at h
 rw [← h];exact this
theorem Cf {a b:Rat} (ha:XN a=false) (hb:XN b=false) (h:a≤b):Jm (JN a) (JN b)=0:=by
 unfold Jm
 rw [RU ha,RU hb,if_pos (show Ql [0,0]=0 from rfl),GA,GA,if_neg]
 have:=(G9 a b).2 h
 omega
end
theorem around_szs {r:Rat} {l:List Rat} {k:Nat} (h:∀ y∈r::l,JL y≤k):W8 (YH r l) k:=by
 obtain ⟨h1,h2⟩:=around_ends r l
 exact⟨h _ h1,h _ h2⟩
theorem powQ_sz2 {a:Rat×Rat} {m:Nat} (ha:W8 a m) (n:Int):W8 (Vo a n) (n.toNat*m+1):=by
 have key:∀ x:Rat,JL x≤m→JL (x^n.toNat)≤n.toNat*m+1:=fun x hx=>by
  have h1:=WT x n.toNat
  have h2:n.toNat*JL x≤n.toNat*m:=Nat.mul_le_mul_left _ hx
  omega
 have h:=around_szs (r:=a.1^n.toNat) (l:=[a.2^n.toNat]) (k:=n.toNat*m+1) fun y hy=>by
  simp only [ay,aw,or_false] at hy
  rcases hy with rfl | rfl
  ·exact key _ ha.1
  ·exact key _ ha.2
 unfold Vo
 refine⟨?_,h.2⟩
 dsimp only
 split
 ·exact aj (by decide +kernel:JL (0:Rat)≤1) (Nat.le_add_left 1 _)
 ·exact h.1
theorem valS_sz2 {c:Rat} {rs:List (Rat×Rat)} {ks:List Int} {z m:Nat} (hc:JL c≤z) (hr:∀ r∈rs,W8 r m) (hk:∀ k∈ks,0≤k) (hl:ks.length≤rs.length):∀ i,i≤ks.length→W8 (V7 (c,c) rs ks i) (z+(ks.take i).sum.toNat*m+i)
 |0,_=>by refine⟨?_,?_⟩<;>exact aj hc (by omega)
 |i+1,hi=>by
  have ih:=valS_sz2 hc hr hk hl i (by omega)
  have h5:=Hn (l:=ks) (i:=i) (by omega)
  have h6:=Sb hk i
  have h7:0≤(ks.take i).sum:=Ek fun x hx=>hk x (List.mem_of_mem_take hx)
  rw [Vj,h5,show((ks.take i).sum+Qa ks i).toNat=(ks.take i).sum.toNat+(Qa ks i).toNat by omega,Nat.add_mul]
  split
  ·have h1:=powQ_sz2 (hr _ (JK (show i<rs.length by omega))) (Qa ks i)
   exact(Rf ih h1).mono (by omega)
  ·exact ih.mono (by omega)
theorem evalS_sz2 {p:List Tm} {k c z zx:Nat} {d:Int} {rs:List (Rat×Rat)} (h:Bd p k c z d) (hr:∀ r∈rs,W8 r zx) (hl:k≤rs.length) (hd:0≤d):W8 (X4 rs p) (1+c*(z+d.toNat*zx+k+1)):=by
 have h1:∀ t∈p,W8 (V7 (t.1,t.1) rs t.2 t.2.length) (z+d.toNat*zx+k):=fun t ht=>by
  have hw:=h.wd t ht
  obtain ⟨hn,hs⟩:=h.nn t ht
  have h2:=valS_sz2 (h.sz t ht) hr hn (by omega) t.2.length (av _)
  rw [List.take_length] at h2
  have h5:t.2.sum.toNat*zx≤d.toNat*zx:=aK _ (by omega)
  exact h2.mono (by omega)
 have h2:=RH (bs:=rs) (B:=z+d.toNat*zx+k) p (0,0) 1 ⟨by decide +kernel,by decide +kernel⟩ h1
 have h3:p.length*(z+d.toNat*zx+k+1)≤c*(z+d.toNat*zx+k+1):=aK _ h.ln
 unfold X4
 exact h2.mono (by omega)
theorem sev1:∀ j:Nat,j<8→ak (j:Int) 7=((j:Int):Rat)*ak 1 7:=by decide +kernel
theorem sev2:∀ j:Nat,j<8→0≤ak (j:Int) 7∧ak (j:Int) 7≤1:=by decide +kernel
theorem betQ_sz {x y:Rat} {m k:Nat} (hx:JL x≤m) (hy:JL y≤m):JL (j1 x y k)≤2*m+11:=by
 have e:j1 x y k=(x*(((7:Int) - ((k%8:Nat):Int):Int):Rat)+y*(((k%8:Nat):Int):Rat))*ak 1 7:=by
  unfold j1
  have e1:ak ((k%8:Nat):Int) 7=(((k%8:Nat):Int):Rat)*ak 1 7:=sev1 _ (aE _ (by decide))
  have e2:(7:Rat)*ak 1 7=1:=by decide +kernel
  rw [e1,Rat.intCast_sub,show((7:Int):Rat)=7 from rfl]
  generalize (((k%8:Nat):Int):Rat)=j
  generalize ak 1 7=s at *
  grind
 have h0:k%8<8:=aE _ (by decide)
 have s1:JL ((((7:Int) - ((k%8:Nat):Int):Int):Rat))≤3:=by
  have a:=Gr ((7:Int) - ((k%8:Nat):Int))
  have b:sz ((7:Int) - ((k%8:Nat):Int))≤3:=(XR _ 3).2 (by omega)
  omega
 have s2:JL ((((k%8:Nat):Int):Rat))≤3:=by
  have a:=Gr ((k%8:Nat):Int)
  have b:sz ((k%8:Nat):Int)≤3:=(XR _ 3).2 (by omega)
  omega
 have s3:JL (ak 1 7)≤3:=by decide +kernel
 rw [e]
 have a1:=J9 x (((7:Int) - ((k%8:Nat):Int):Int):Rat)
 have a2:=J9 y (((k%8:Nat):Int):Rat)
 have a3:=Vc (x*(((7:Int) - ((k%8:Nat):Int):Int):Rat)) (y*(((k%8:Nat):Int):Rat))
 have a4:=J9 (x*(((7:Int) - ((k%8:Nat):Int):Int):Rat)+y*(((k%8:Nat):Int):Rat)) (ak 1 7)
 omega
theorem betQ_in {a:Rat×Rat} (h:a.1≤a.2) (k:Nat):sIn (j1 a.1 a.2 k) a:=by
 obtain ⟨h0,h1⟩:=sev2 _ (aE k (show 0<8 by decide))
 unfold j1 sIn
 generalize ak ((k%8:Nat):Int) 7=j at *
 have hd:0≤a.2 - a.1:=by grind
 have m1:=Rat.mul_nonneg hd h0
 have m2:=ab h1 hd
 constructor<;>grind
section
variable {w:World} {F:Gs}
theorem betT_g {s:List UInt8×List UInt8} {k:Nat} (hF:Fits F w) (h1:Jg s.1=0) (h2:Jg s.2=0) (hk:k<256):QZ Tryz.prog 98 [.agg #[tx s.1,tx s.2],.int .u8 (k:Nat)] w F (tx (JN (j1 (Jj s.1) (Jj s.2) k))):=by
 have h:=yt (x:=Jj s.1) (y:=Jj s.2) (k:=k) hF (aj (XE h1) (by decide)) (aj (XE h2) (by decide)) hk
 rwa [← (X6 h1).1,← (X6 h2).1] at h
def txS (r:Rat×Rat):List UInt8×List UInt8:=(JN r.1,JN r.2)
theorem chk_txS {r:Rat×Rat} (h:W8 r 1800) (ho:r.1≤r.2):Jm (txS r).1 (txS r).2=0:=Cf (Y9 h.1 (av _)) (Y9 h.2 (av _)) ho
theorem len_txS {r:Rat×Rat} (h:W8 r 1800):(txS r).1.length≤1000000∧(txS r).2.length≤1000000:=by
 have h1:=V6 r.1
 have h2:=V6 r.2
 have h3:=h.1
 have h4:=h.2
 exact⟨by show(JN r.1).length≤_;omega,by show(JN r.2).length≤_;omega⟩
theorem evalSX_g {a:KG} {p:List Tm} {q:Option Addr} {k cap:Nat} {ss:List (List UInt8×List UInt8)} {R:Rat×Rat} (hF:Fits F w) (hGl:JB F) (hA:YR F a.1 a.2 (ZQ p)) (hk:1≤k∧k≤25) (hp:Bq k p) (hS:Q6 F q k 2 (ss.flatMap PJ)) (hn:ss.length=k) (hx:∀ s∈ss,Jm s.1 s.2=0∧s.1.length≤1000000∧s.2.length≤1000000) (hR:X4 (ss.map ZB) p=R) (hz:W8 R 1800) :
  QZ Tryz.prog 81 [a.1.v,.slice q k cap] w F (.tuple #[xJ R,.int .i64 0]):=by
 have h:=PB (a:=a) (cap:=cap) hF hGl hA.1 hA.2.1 (hp.yE (by omega) hA) hS hn (fun s hs=>(hx s hs).2) (by omega)
 have e1:BN (ZQ p) ss.length=0:=by
  have z1:(if decide ((k:Int)=0)=true then(2:Int) else 0)=0:=if_neg (by rw [decide_eq_true_eq];omega)
  have z2:(if decide ((k:Int)>25)=true then(5:Int) else 0)=0:=if_neg (by rw [decide_eq_true_eq];omega)
  unfold BN
  rw [hn,z1,z2]
  exact(if_pos rfl).trans (hp.C6 (v:=(k:Int) - 1) (by omega))
 have e2:Ql (ss.map fun s=>Jm s.1 s.2)=0:=by
  have key:∀ l:List (List UInt8×List UInt8),(∀ s∈l,Jm s.1 s.2=0)→Ql (l.map fun s=>Jm s.1 s.2)=0:=by
   intro l
   induction l with
   |nil=>intro _;rfl
   |cons s l ih=>intro hl;rw [aF];unfold Ql;rw [if_pos (hl s ag)];exact ih fun x hx=>hl x (ah _ hx)
  exact key ss fun s hs=>(hx s hs).1
 have e3:zT (J2 a.2) ss=(txS R,0):=by
  rw [hA.2.2.1]
  unfold zT
  rw [if_pos e1,if_pos e2,C5,hR]
  unfold V4
  rw [Y9 hz.1 (av _),Y9 hz.2 (av _)];rfl
 rw [e3] at h
 exact h
theorem outX_g {R:Rat×Rat} {b:Int} (hF:Fits F w) (hGl:JB F) (ho:R.1≤R.2) (hz:W8 R 1650) (hb:0≤b∧b≤64) :
  QZ Tryz.prog 18 [xJ R,.int .i64 b] w F (.tuple #[xJ (Yf R.1 b.toNat,-Yf (-R.2) b.toNat),.int .i64 0]):=by
 have hz2:=hz.mono (show 1650≤1800 by decide)
 have h:=Ue (lo:=JN R.1) (hi:=JN R.2) (b:=b) hF hGl (len_txS hz2)
 have h1:=Y9 (SR hz.1 hb.2) (by decide)
 have h2:=Y9 (r:=-Yf (-R.2) b.toNat) (k:=1790) (by rw [GB];exact SR (by rw [GB];exact hz.2) hb.2) (by decide)
 have e:AT (JN R.1) (JN R.2) b=(txS (Yf R.1 b.toNat,-Yf (-R.2) b.toNat),0):=by
  unfold AT
  rw [if_pos (by rw [Cf (Y9 hz2.1 (av _)) (Y9 hz2.2 (av _)) ho,c5 hb];rfl),dL,GA,GA]
  unfold V4
  dsimp only
  rw [h1,h2];rfl
 rw [e] at h;exact h
theorem witX_g {A B:Rat×Rat} (hF:Fits F w) (hGl:JB F) (ha:W8 A 1800) (hb:W8 B 1800) (h:sSub A B) :
  QZ Tryz.prog 49 [xJ A,xJ B] w F (.tuple #[.bool true,.int .i64 0]):=by
 have h1:=gU (a:=txS A) (b:=txS B) hF hGl (len_txS ha) (len_txS hb)
 have e:z6 (txS A) (txS B)=(true,0):=by
  unfold z6
  rw [if_pos (by rw [chk_txS ha h.2.1,chk_txS hb (ae h.1 (ae h.2.1 h.2.2))];rfl)]
  unfold txS
  dsimp only
  rw [GA,GA,GA,GA,decide_eq_true ((Li _ _).2 h.1),decide_eq_true ((G9 _ _).2 h.2.2)];rfl
 rw [e] at h1;exact h1
theorem inX_g {x:Rat} {B:Rat×Rat} (hF:Fits F w) (hx:JL x≤1800) (hb:W8 B 1800) (h:sIn x B):QZ Tryz.prog 102 [tx (JN x),xJ B] w F (.bool true):=by
 have h1:=dB (x:=x) (b:=B) hF (by omega) ⟨by have:=hb.1;omega,by have:=hb.2;omega⟩
 rw [decide_eq_true ((G9 _ _).2 h.1),decide_eq_true ((G9 _ _).2 h.2)] at h1
 exact h1
theorem rwitX_g {A B:Rat×Rat} (hF:Fits F w) (ha:W8 A 1800) (hb:W8 B 1800) (h1:sIn A.1 B) (h2:sIn A.2 B):QZ Tryz.prog 51 [xJ A,xJ B] w F (.bool true):=by
 have h:=va (a:=A) (b:=B) hF ⟨by have:=ha.1;omega,by have:=ha.2;omega⟩ ⟨by have:=hb.1;omega,by have:=hb.2;omega⟩
 unfold inQ at h
 rw [decide_eq_true ((G9 _ _).2 h1.1),decide_eq_true ((G9 _ _).2 h1.2),decide_eq_true ((G9 _ _).2 h2.1),decide_eq_true ((G9 _ _).2 h2.2)] at h
 exact h
theorem rspanX_g {R:Rat×Rat} (hF:Fits F w) (hz:W8 R 1800) (ho:R.1≤R.2):QZ Tryz.prog 21 [xJ R] w F (.int .i64 0):=by
 have h:=FT (lo:=JN R.1) (hi:=JN R.2) hF (len_txS hz)
 rw [show Jm (JN R.1) (JN R.2)=0 from chk_txS hz ho] at h
 exact h
theorem rboxX_g {q:Option Addr} {n c:Nat} {rs:List (Rat×Rat)} (hF:Fits F w) (hR:Q6 F q n 2 ((rs.map txS).flatMap xU)) (hn:rs.length=n) (h:∀ r∈rs,W8 r 1800∧r.1≤r.2) (hb:n≤1000):QZ Tryz.prog 56 [.slice q n c] w F (.int .i64 0):=by
 have h1:=xg (c:=c) (l:=rs.map txS) hF hR ⟨by rw [aC];exact hn,fun s hs=>by
  obtain ⟨r,hr,rfl⟩:=List.mem_map.1 hs
  exact len_txS (h r hr).1⟩ (by omega)
 have key:∀ l:List (Rat×Rat),(∀ r∈l,W8 r 1800∧r.1≤r.2)→QAp (l.map txS)=0:=by
  intro l
  induction l with
  |nil=>intro _;rfl
  |cons r l ih =>
   intro hl
   have h2:=chk_txS (hl r ag).1 (hl r ag).2
   have h3:=ih fun x hx=>hl x (ah _ hx)
   unfold QAp at h3 ⊢
   rw [aF,aF]
   unfold Ql
   rw [if_pos h2];exact h3
 have h4:Ql ((rs.map txS).map fun s=>Jm s.1 s.2)=0:=key rs h
 rw [h4] at h1
 exact h1
end
def u8c (k:Nat):Value:=.int .u8 (k:Int)
theorem ar_s3:vR Tryz.prog 113=some (3,24):=by kernel_rfl
theorem ar_u6:vR Tryz.prog 114=some (6,5):=by kernel_rfl
abbrev SpT:=List UInt8×List UInt8
def bxQ (ss:List SpT) (ks:List Nat) (i:Nat):Rat:=j1 (Jj (el ss i).1) (Jj (el ss i).2) (el ks i)
def byQ (ss:List SpT) (ks:List Nat) (i:Nat):Rat:=j1 (Jj (el ss i).1) (Jj (el ss i).2) (el ks (i+3))
def ptQ (ss:List SpT) (ks:List Nat) (i:Nat):Rat×Rat:=(Cy (bxQ ss ks i) (byQ ss ks i),Cz (bxQ ss ks i) (byQ ss ks i))
def sgQ (ss:List SpT) (ks:List Nat) (i:Nat):Rat×Rat:=(bxQ ss ks i,bxQ ss ks i)
theorem rot3 {α:Type} (a b c:List α):((a++b)++c).Perm ((b++c)++a):=by rw [List.append_assoc];exact List.perm_append_comm
structure EnJ (ss:List SpT) (ks:List Nat) where
 i:Nat
 v7:Value
 v8:Value
 v9:Value
 o7:List (Nat×Obj)
 o8:List (Nat×Obj)
 o9:List (Nat×Obj)
 le:i≤3
 h7:Qx 22 1 v7 i ((((aa i).map (bxQ ss ks)).map JN).map tx) o7
 h8:Qx 24 2 v8 i ((((aa i).map (ptQ ss ks)).map txS).flatMap PJ) o8
 h9:Qx 24 2 v9 i ((((aa i).map (sgQ ss ks)).map txS).flatMap PJ) o9
theorem q_eqSpS {N:Nat} {m:Sl} {S:World→Prop} {ty yT:TypeId} {x y:Operand} {a b:List UInt8} (hx:ev m x=some (.agg #[tx a,tx b])) (hy:ev m y=some (.agg #[tx a,tx b])):Qt Tryz.prog N m S (.binOp .eql 24 x y yT) ty (.bool true):=by
 have:=Oc (N:=N) (yT:=yT) (ty:=ty) (S:=S) hx hy
 rw [decide_eq_true rfl,decide_eq_true rfl] at this
 exact this
theorem el_range3 {α:Type} [Inhabited α] (f:Nat→α) {j:Nat} (h:j<3):el ((aa 3).map f) j=f j:=el3 (C:=fun j=>el ((aa 3).map f) j=f j) rfl rfl rfl h
theorem map_txS (rs:List (Rat×Rat)):(rs.map txS).map ZB=rs:=by
 rw [aR]
 conv=>rhs;rw [← aS rs]
 refine aL fun r _=>?_
 show(Jj (JN r.1),Jj (JN r.2))=r
 rw [GA,GA]
theorem map_ratT (xs:List Rat):(xs.map JN).map Jj=xs:=by
 rw [aR]
 conv=>rhs;rw [← aS xs]
 exact aL fun r _=>GA r
theorem mem_range3 {α:Type} {f:Nat→α} {r:α} (h:r∈(aa 3).map f):∃ j,j<3∧r=f j:=by
 obtain ⟨j,hj,e⟩:=List.mem_map.1 h
 exact⟨j,List.mem_range.1 hj,e.symm⟩
structure BoxB (ss:List SpT) (ks:List Nat) (P:List Tm):Prop where
 bp:Bd P 3 6 17 5
 fw:∀ s∈ss,CU 5 s=true
 l3:ss.length=3
 l6:ks.length=6
 k8:∀ k∈ks,k<256
section
variable {ss:List SpT} {ks:List Nat} {P:List Tm}
theorem fewS_ok {s:SpT} (h:CU 5 s=true):(Jg s.1=0∧Jg s.2=0)∧(JL (Jj s.1)≤17∧JL (Jj s.2)≤17)∧Jj s.1≤Jj s.2∧s.1.length≤12∧s.2.length≤12:=by
 unfold CU at h
 rw [ao,ao,Bool.not_eq_true',decide_eq_false_iff_not,Lh] at h
 exact⟨⟨Lg h.1,Lg h.2.1⟩,⟨y9 (d:=5) h.1 (by decide),y9 (d:=5) h.2.1 (by decide)⟩,Rat.not_lt.1 h.2.2,(vM (d:=5) h.1).2.1,(vM (d:=5) h.2.1).2.1⟩
theorem BoxB.at (h:BoxB ss ks P) {j:Nat} (hj:j<3):CU 5 (el ss j)=true:=h.fw _ (JK (by rw [h.l3];exact hj))
theorem BoxB.bx (h:BoxB ss ks P) {j:Nat} (hj:j<3):JL (bxQ ss ks j)≤45∧sIn (bxQ ss ks j) (ZB (el ss j)):=by
 obtain ⟨_,hz,ho,_⟩:=fewS_ok (h.at hj)
 exact⟨betQ_sz hz.1 hz.2,betQ_in (a:=ZB (el ss j)) ho _⟩
theorem BoxB.by (h:BoxB ss ks P) {j:Nat} (hj:j<3):JL (byQ ss ks j)≤45∧sIn (byQ ss ks j) (ZB (el ss j)):=by
 obtain ⟨_,hz,ho,_⟩:=fewS_ok (h.at hj)
 exact⟨betQ_sz hz.1 hz.2,betQ_in (a:=ZB (el ss j)) ho _⟩
theorem BoxB.pt (h:BoxB ss ks P) {j:Nat} (hj:j<3):W8 (ptQ ss ks j) 45∧sIn (bxQ ss ks j) (ptQ ss ks j)∧sSub (ptQ ss ks j) (ZB (el ss j)):=by
 obtain ⟨z1,i1⟩:=h.bx hj
 obtain ⟨z2,i2⟩:=h.by hj
 unfold ptQ
 rw [uQ,uR]
 unfold sIn sSub at *
 dsimp only
 by_cases e:bxQ ss ks j≤byQ ss ks j
 ·rw [if_pos e]
  by_cases e2:byQ ss ks j≤bxQ ss ks j
  ·rw [if_pos e2];exact⟨⟨z1,z1⟩,by grind,by grind⟩
  ·rw [if_neg e2];exact⟨⟨z1,z2⟩,by grind,by grind⟩
 ·have e2:byQ ss ks j≤bxQ ss ks j:=by grind
  rw [if_neg e,if_pos e2];exact⟨⟨z2,z1⟩,by grind,by grind⟩
theorem BoxB.C6 (h:BoxB ss ks P) {n:Nat} (hn:n=3):∀ t∈P,t.2.length≤n∧∀ k∈t.2,0≤k:=fun t ht=>⟨by rw [hn,h.bp.wd t ht];exact av 3,(h.bp.nn t ht).1⟩
theorem BoxB.el_sp (h:BoxB ss ks P) {j:Nat} (hj:j<3):el (ss.map ZB) j=ZB (el ss j):=by
 have:=h.l3
 rw [X5 (by rw [aC];omega),List.getElem_map,← X5 (by omega)]
theorem BoxB.val (h:BoxB ss ks P):sIn (Zp ((aa 3).map (bxQ ss ks)) P) (X4 ((aa 3).map (ptQ ss ks)) P):=by
 refine evalS_mem (h.C6 (by simp)) fun i hi=>?_
 have hi:i<3:=by simpa using hi
 rw [el_range3 _ hi,el_range3 _ hi];exact(h.pt hi).2.1
theorem BoxB.part (h:BoxB ss ks P):sSub (X4 ((aa 3).map (ptQ ss ks)) P) (X4 (ss.map ZB) P):=by
 refine evalS_sub (h.C6 (by simp)) fun i hi=>?_
 have hi:i<3:=by simpa using hi
 rw [el_range3 _ hi,h.el_sp hi];exact(h.pt hi).2.2
theorem BoxB.one (h:BoxB ss ks P):X4 ((aa 3).map (sgQ ss ks)) P=(Zp ((aa 3).map (bxQ ss ks)) P,Zp ((aa 3).map (bxQ ss ks)) P):=by
 refine evalS_one (h.C6 (by simp)) fun i hi=>?_
 have hi:i<3:=by simpa using hi
 rw [el_range3 _ hi,el_range3 _ hi];rfl
theorem BoxB.zv (h:BoxB ss ks P):JL (Zp ((aa 3).map (bxQ ss ks)) P)≤1483:=dx h.bp (zx:=45) (fun x hx=>by obtain ⟨j,hj,rfl⟩:=mem_range3 hx;exact(h.bx hj).1) (by simp) (by decide)
theorem BoxB.zt (h:BoxB ss ks P):W8 (X4 ((aa 3).map (ptQ ss ks)) P) 1477:=evalS_sz2 h.bp (zx:=45) (fun x hx=>by obtain ⟨j,hj,rfl⟩:=mem_range3 hx;exact(h.pt hj).1) (by simp) (by decide)
theorem BoxB.zb (h:BoxB ss ks P):W8 (X4 (ss.map ZB) P) 1477:=evalS_sz2 h.bp (zx:=45) (fun x hx=>by
 obtain ⟨s,hs,rfl⟩:=List.mem_map.1 hx
 have:=(fewS_ok (h.fw s hs)).2.1
 exact⟨aj this.1 (by decide),aj this.2 (by decide)⟩) (by rw [aC,h.l3];exact av 3) (by decide)
theorem BoxB.chkP (h:BoxB ss ks P):∀ s∈((aa 3).map (ptQ ss ks)).map txS,Jm s.1 s.2=0∧s.1.length≤1000000∧s.2.length≤1000000:=fun s hs=>by
 obtain ⟨r,hr,rfl⟩:=List.mem_map.1 hs
 obtain ⟨j,hj,rfl⟩:=mem_range3 hr
 obtain ⟨z,_,s⟩:=h.pt hj
 exact⟨chk_txS (z.mono (by decide)) s.2.1,len_txS (z.mono (by decide))⟩
theorem BoxB.chkS (h:BoxB ss ks P):∀ s∈((aa 3).map (sgQ ss ks)).map txS,Jm s.1 s.2=0∧s.1.length≤1000000∧s.2.length≤1000000:=fun s hs=>by
 obtain ⟨r,hr,rfl⟩:=List.mem_map.1 hs
 obtain ⟨j,hj,rfl⟩:=mem_range3 hr
 have z:=(h.bx hj).1
 have z:W8 (sgQ ss ks j) 1800:=⟨aj z (by decide),aj z (by decide)⟩
 exact⟨chk_txS z af,len_txS z⟩
theorem BoxB.chkB (h:BoxB ss ks P):∀ s∈ss,Jm s.1 s.2=0∧s.1.length≤1000000∧s.2.length≤1000000:=fun s hs=>by
 obtain ⟨⟨c1,c2⟩,_,ho,l1,l2⟩:=fewS_ok (h.fw s hs)
 refine⟨?_,by omega,by omega⟩
 unfold Jm
 rw [c1,c2,if_pos (show Ql [0,0]=0 from rfl),if_neg]
 have:=(G9 (Jj s.1) (Jj s.2)).2 ho
 omega
theorem BoxB.chkX (h:BoxB ss ks P):∀ s∈((aa 3).map (bxQ ss ks)).map JN,Jg s=0∧s.length≤1000000:=fun s hs=>by
 obtain ⟨r,hr,rfl⟩:=List.mem_map.1 hs
 obtain ⟨j,hj,rfl⟩:=mem_range3 hr
 have z:=(h.bx hj).1
 have:=V6 (bxQ ss ks j)
 exact⟨RU (Y9 z (by decide)),by omega⟩
end
set_option maxRecDepth 20000 in
theorem encloses_g {w:World} {F:Gs} {pa:KG} {l0 h0 l1 h1 l2 h2:List UInt8} {k0 k1 k2 k3 k4 k5:Nat} (hF:Fits F w) (hGl:JB F) (hA:YR F pa.1 pa.2 (J2 pa.2)) (fA:∀ t∈pa.2,t.f.length≤9223372036854775807∧t.k.length≤9223372036854775807) (lA:pa.1.n≤9223372036854775807) (hk8:∀ k∈[k0,k1,k2,k3,k4,k5],k<256) :
  QZ Tryz.prog 14 [pa.1.v,.agg #[tx l0,tx h0,tx l1,tx h1,tx l2,tx h2],.agg #[.int .u8 (k0:Nat),.int .u8 (k1:Nat),.int .u8 (k2:Nat),.int .u8 (k3:Nat),.int .u8 (k4:Nat),.int .u8 (k5:Nat)]] w F (.bool true):=by
 refine QT.intro (G:=fun F=>JB F∧YR F pa.1 pa.2 (J2 pa.2)) Tryz.func14 rfl (by rfl) rfl rfl hF (fun F' hF'=>⟨hGl.le hF',hA.le hF'⟩)<|QG<|QB ?_
 refine Q2 rfl (vs:=[_,_,_,_,_,_]) rfl (fun b4=>?_)
 refine Q2 rfl (vs:=[_,_,_,_,_,_]) rfl (fun b5=>?_)
 refine Wz (b:=b4) .u1<|Wz (b:=b5) .here<|wD rfl<|QG ?_
 refine Kz [(0,_),(4,_),(5,_)] [(36,.bool ((!(dn (J2 pa.2) 2 6 5 5)||!(decide (((3:Nat):Int)≤3)&&[(l0,h0),(l1,h1),(l2,h2)].all (CU 5)))))] wM ?_ ?_
 ·
  refine QB ?_
  refine QH rfl (fun w F hF h9=>j3 hF h9.1.1.1) (fun _=>?_)
  refine QA (Yc rfl)<|wA rfl<|QL rfl rfl<|wA rfl<|QL rfl rfl ?_
  refine QH rfl (fun w F hF ⟨⟨⟨⟨hGl,hA⟩,hz4⟩,hz5⟩,_⟩=>xf (v:=2) (a:=6) (b:=5) (c:=5) hF hGl hA.1 hA.2.1 hA.2.2.2.2 fA (by have:=hA.2.2.2.2;omega) (by decide) (by decide)) (fun _=>?_)
  refine QL rfl rfl<|QA (Yc rfl)<|QA (Qh rfl rfl rfl)<|wA rfl ?_
  refine Qn (t:=32) rfl (fun hb32=>?_) (fun hb32=>?_)
  ·
   refine QN rfl rfl rfl<|QN rfl rfl rfl<|QN rfl rfl rfl<|QA (Qi rfl rfl rfl)<|QE ?_
   exact ZI ⟨rfl,rfl,rfl,(congrArg (fun b=>some (aT b)) (by rw [aQ];simp_all)),trivial⟩ wG (fun _ h=>h.1.1)
  ·
   refine QL rfl rfl<|QA (OS rfl ar_s3 JU)<|QL rfl rfl ?_
   refine QH rfl (fun w F hF h9=>qm (l:=[(l0,h0),(l1,h1),(l2,h2)]) (m:=3) (d:=5) hF (Q6.of (n:=3) (sz:=2) (cs:=[(l0,h0),(l1,h1),(l2,h2)].flatMap xU) h9.1.1.1.2 rfl) rfl (by decide) (by decide)) (fun _=>?_)
   refine QL rfl rfl<|QA (Yc rfl)<|QA (Qh rfl rfl rfl)<|QE ?_
   exact ZI ⟨rfl,rfl,rfl,(congrArg (fun b=>some (aT b)) (by rw [aQ];simp_all)),trivial⟩ wG (fun _ h=>h.1.1.1)
 ·
  simp only [aO,aP]
  refine QQ rfl (fun hc=>?_) (fun hc=>?_)
  ·
   refine QG<|QB ?_
   refine QH rfl (fun w F hF h9=>j3 hF h9.1.1.1) (fun _=>?_)
   refine wD rfl<|QS ?_
   exact wH rfl rfl (rfl) (fun F h9=>trivial)
  ·
   rw [Bool.or_eq_false_iff,aN,aN,ao] at hc
   obtain ⟨fa,_,fl⟩:=hc
   obtain ⟨P,eA,bp⟩:∃ P,J2 pa.2=ZQ P∧Bd P 3 6 17 5:=⟨_,uY (v:=2) (a:=6) (b:=5) (dg:=5) (by decide) fa (by decide)⟩
   have hb:BoxB [(l0,h0),(l1,h1),(l2,h2)] [k0,k1,k2,k3,k4,k5] P:=⟨bp,fun s hs=>List.all_eq_true.1 fl s hs,rfl,rfl,hk8⟩
   have qp:Bq 3 P:=Bq.of bp (by decide) (by decide) (by decide)
   have zv:=hb.zv
   have zt:=hb.zt
   have zb:=hb.zb
   have hval:=hb.val
   have hpart:=hb.part
   have hone:=hb.one
   have k40:k0%40<40:=aE _ (by decide)
   have hk0:k0<256:=hk8 k0 (by simp)
   have zo:W8 (Yf (X4 ((aa 3).map (ptQ [(l0,h0),(l1,h1),(l2,h2)] [k0,k1,k2,k3,k4,k5])) P).1 (k0%40),-Yf (-(X4 ((aa 3).map (ptQ [(l0,h0),(l1,h1),(l2,h2)] [k0,k1,k2,k3,k4,k5])) P).2) (k0%40)) 1800:=⟨SR (b:=((k0%40:Nat):Int)) (aj zt.1 (show 1477≤1660 by decide)) (by omega),by show JL (-Yf (-(X4 ((aa 3).map (ptQ [(l0,h0),(l1,h1),(l2,h2)] [k0,k1,k2,k3,k4,k5])) P).2) (k0%40))≤1800;rw [GB];exact SR (b:=((k0%40:Nat):Int)) (by rw [GB];exact aj zt.2 (show 1477≤1660 by decide)) (by omega)⟩
   have hfl:=(CR (X4 ((aa 3).map (ptQ [(l0,h0),(l1,h1),(l2,h2)] [k0,k1,k2,k3,k4,k5])) P).1 (k0%40)).1
   have hce:=(gF (X4 ((aa 3).map (ptQ [(l0,h0),(l1,h1),(l2,h2)] [k0,k1,k2,k3,k4,k5])) P).2 (k0%40)).1
   have zv18:JL (Zp ((aa 3).map (bxQ [(l0,h0),(l1,h1),(l2,h2)] [k0,k1,k2,k3,k4,k5])) P)≤1800:=aj zv (by decide)
   have zt18:W8 (X4 ((aa 3).map (ptQ [(l0,h0),(l1,h1),(l2,h2)] [k0,k1,k2,k3,k4,k5])) P) 1800:=zt.mono (by decide)
   have zb18:W8 (X4 ([(l0,h0),(l1,h1),(l2,h2)].map ZB) P) 1800:=zb.mono (by decide)
   have zone:W8 ((Zp ((aa 3).map (bxQ [(l0,h0),(l1,h1),(l2,h2)] [k0,k1,k2,k3,k4,k5])) P),(Zp ((aa 3).map (bxQ [(l0,h0),(l1,h1),(l2,h2)] [k0,k1,k2,k3,k4,k5])) P)) 1800:=⟨zv18,zv18⟩
   have zva:JL (Zp ((((aa 3).map (bxQ [(l0,h0),(l1,h1),(l2,h2)] [k0,k1,k2,k3,k4,k5])).map JN).map Jj) P)≤1800:=by rw [map_ratT];exact zv18
   have ordt:=hpart.2.1
   have ordo:(Yf (X4 ((aa 3).map (ptQ [(l0,h0),(l1,h1),(l2,h2)] [k0,k1,k2,k3,k4,k5])) P).1 (k0%40),-Yf (-(X4 ((aa 3).map (ptQ [(l0,h0),(l1,h1),(l2,h2)] [k0,k1,k2,k3,k4,k5])) P).2) (k0%40)).1≤(Yf (X4 ((aa 3).map (ptQ [(l0,h0),(l1,h1),(l2,h2)] [k0,k1,k2,k3,k4,k5])) P).1 (k0%40),-Yf (-(X4 ((aa 3).map (ptQ [(l0,h0),(l1,h1),(l2,h2)] [k0,k1,k2,k3,k4,k5])) P).2) (k0%40)).2:=by show Yf (X4 ((aa 3).map (ptQ [(l0,h0),(l1,h1),(l2,h2)] [k0,k1,k2,k3,k4,k5])) P).1 (k0%40)≤-Yf (-(X4 ((aa 3).map (ptQ [(l0,h0),(l1,h1),(l2,h2)] [k0,k1,k2,k3,k4,k5])) P).2) (k0%40);grind
   have int1:sIn (X4 ((aa 3).map (ptQ [(l0,h0),(l1,h1),(l2,h2)] [k0,k1,k2,k3,k4,k5])) P).1 (Yf (X4 ((aa 3).map (ptQ [(l0,h0),(l1,h1),(l2,h2)] [k0,k1,k2,k3,k4,k5])) P).1 (k0%40),-Yf (-(X4 ((aa 3).map (ptQ [(l0,h0),(l1,h1),(l2,h2)] [k0,k1,k2,k3,k4,k5])) P).2) (k0%40)):=by unfold sIn;dsimp only;grind
   have int2:sIn (X4 ((aa 3).map (ptQ [(l0,h0),(l1,h1),(l2,h2)] [k0,k1,k2,k3,k4,k5])) P).2 (Yf (X4 ((aa 3).map (ptQ [(l0,h0),(l1,h1),(l2,h2)] [k0,k1,k2,k3,k4,k5])) P).1 (k0%40),-Yf (-(X4 ((aa 3).map (ptQ [(l0,h0),(l1,h1),(l2,h2)] [k0,k1,k2,k3,k4,k5])) P).2) (k0%40)):=by unfold sIn;dsimp only;grind
   refine QO<|QC<|wE<|wD rfl<|wE<|wB rfl<|wD rfl<|QG<|wE<|wD rfl<|QX ?_
   refine Jz (ι:=EnJ [(l0,h0),(l1,h1),(l2,h2)] [k0,k1,k2,k3,k4,k5]) [(0,_),(4,_),(5,_)] (fun i=>[(7,i.v7),(8,i.v8),(9,i.v9),(10,.int .i64 ((i.i:Nat):Int))]) (fun i=>((i.o7++i.o8)++i.o9)) (fun i F=>True) (fun i=>3 - i.i) (⟨0,_,_,_,[],[],[],by decide,.nil,.nil,.nil⟩) wM wN wG (fun _ _=>trivial) (fun i=>?_)
   simp only [aO,aP]
   have hi:=i.le
   refine QG<|wF rfl<|QA (QU rfl rfl rfl)<|QE<|QC ?_
   refine QQ rfl (fun hc=>?_) (fun hc=>?_)
   ·
    have hlt:i.i<3:=by have:=wI hc;omega
    obtain ⟨⟨hc1,hc2⟩,_⟩:=fewS_ok (hb.at hlt)
    have kx:el [k0,k1,k2,k3,k4,k5] i.i<256:=hk8 _ (JK (show i.i<6 by omega))
    have ky:el [k0,k1,k2,k3,k4,k5] (i.i+3)<256:=hk8 _ (JK (show i.i+3<6 by omega))
    have zx:=(hb.bx hlt).1
    have zy:=(hb.by hlt).1
    refine QO<|QC<|QG<|QX<|QG<|JV wG mixed (by kernel_rfl)<|QK (QD rfl)<|QK (EI (i:=i.i) rfl rfl ar_s3 JU hlt)<|QK (Xd (n:=3) (vs:=[tx (el [(l0,h0),(l1,h1),(l2,h2)] (i.i)).1,tx (el [(l0,h0),(l1,h1),(l2,h2)] (i.i)).2]) ((i.i)*2) (fun F h9=>(Q6.of (n:=3) (sz:=2) (cs:=[(l0,h0),(l1,h1),(l2,h2)].flatMap xU) h9.1.1.2 rfl)) (by omega) rfl JU rfl (fun j v hv=>Jy (f:=xU) (l:=[(l0,h0),(l1,h1),(l2,h2)]) Rl (by omega) hv))<|QK (QD rfl)<|QK (EI (i:=i.i) rfl rfl ar_u6 Lx (by omega))<|QK (JQ (n:=6) ((i.i)*1) (fun F h9=>(Q6.of (n:=6) (sz:=1) (cs:=[k0,k1,k2,k3,k4,k5].map u8c) h9.1.2 rfl)) (by omega) rfl Lx (Bp (f:=u8c) (l:=[k0,k1,k2,k3,k4,k5]) (by show _<6;omega))) ?_
    refine Qd rfl (fun w F hF h9=>betT_g (s:=el [(l0,h0),(l1,h1),(l2,h2)] i.i) (k:=el [k0,k1,k2,k3,k4,k5] i.i) hF hc1 hc2 kx) (fun _=>?_)
    refine QK (QD rfl)<|QK (EI (i:=i.i) rfl rfl ar_s3 JU hlt)<|QK (Xd (n:=3) (vs:=[tx (el [(l0,h0),(l1,h1),(l2,h2)] (i.i)).1,tx (el [(l0,h0),(l1,h1),(l2,h2)] (i.i)).2]) ((i.i)*2) (fun F h9=>(Q6.of (n:=3) (sz:=2) (cs:=[(l0,h0),(l1,h1),(l2,h2)].flatMap xU) h9.1.1.2 rfl)) (by omega) rfl JU rfl (fun j v hv=>Jy (f:=xU) (l:=[(l0,h0),(l1,h1),(l2,h2)]) Rl (by omega) hv))<|QK (QD rfl)<|QK (Qs rfl rfl (by omega))<|QK (EI (i:=i.i+3) rfl (congrArg (fun z:Int=>some (Value.int .i64 z)) (by omega)) ar_u6 Lx (by omega))<|QK (JQ (n:=6) ((i.i+3)*1) (fun F h9=>(Q6.of (n:=6) (sz:=1) (cs:=[k0,k1,k2,k3,k4,k5].map u8c) h9.1.2 rfl)) (by omega) rfl Lx (Bp (f:=u8c) (l:=[k0,k1,k2,k3,k4,k5]) (by show _<6;omega))) ?_
    refine Qd rfl (fun w F hF h9=>betT_g (s:=el [(l0,h0),(l1,h1),(l2,h2)] i.i) (k:=el [k0,k1,k2,k3,k4,k5] (i.i+3)) hF hc1 hc2 ky) (fun _=>?_)
    refine QK (QF rfl)<|QK (QF rfl)<|Q3<|QC<|wF rfl<|wA rfl ?_
    refine QW rfl (Q8 E4) Jo vW rfl rfl (fun b59=>?_)
    refine X0 (bs':=(i.o8++i.o9)++i.o7) (rot3 _ _ _) ?_
    refine Kf (bs1:=i.o8++i.o9) (ob:=i.o7) (n:=i.i) (k:=1) (sz:=1) (news:=[tx (JN (bxQ [(l0,h0),(l1,h1),(l2,h2)] [k0,k1,k2,k3,k4,k5] i.i))]) rfl rfl E4 Jo vW rfl QAv i.h7 (Src.row (off:=0) (fun F h9=>h9.2) (fun j q hq=>by rw [aH];rw [aA];exact hq) rfl) (by omega) (by omega) (ZX wK) (fun v60 ob60 hr60=>?_)
    refine wD rfl<|wF rfl<|wA rfl<|wA rfl ?_
    refine QH rfl (fun w F hF h9=>cN (x:=(bxQ [(l0,h0),(l1,h1),(l2,h2)] [k0,k1,k2,k3,k4,k5] i.i)) (y:=(byQ [(l0,h0),(l1,h1),(l2,h2)] [k0,k1,k2,k3,k4,k5] i.i)) hF (aj zx (by decide)) (aj zy (by decide))) (fun _=>?_)
    refine wA rfl<|wA rfl ?_
    refine QH rfl (fun w F hF h9=>cO (x:=(bxQ [(l0,h0),(l1,h1),(l2,h2)] [k0,k1,k2,k3,k4,k5] i.i)) (y:=(byQ [(l0,h0),(l1,h1),(l2,h2)] [k0,k1,k2,k3,k4,k5] i.i)) hF (aj zx (by decide)) (aj zy (by decide))) (fun _=>?_)
    refine QA (Q7 rfl Y8 Zy (.cons (vs:=[_]) rfl rfl rfl .h1 (.cons (vs:=[_]) rfl rfl rfl (.skip .h1) .nil))) ?_
    refine QW rfl (Q8 GC) JU Zy rfl rfl (fun b69=>?_)
    refine X0 (bs':=(i.o9++ob60)++i.o8) (rot3 _ _ _) ?_
    refine Kf (bs1:=i.o9++ob60) (ob:=i.o8) (n:=i.i) (k:=1) (sz:=2) (news:=[tx (JN (Cy (bxQ [(l0,h0),(l1,h1),(l2,h2)] [k0,k1,k2,k3,k4,k5] i.i) (byQ [(l0,h0),(l1,h1),(l2,h2)] [k0,k1,k2,k3,k4,k5] i.i))),tx (JN (Cz (bxQ [(l0,h0),(l1,h1),(l2,h2)] [k0,k1,k2,k3,k4,k5] i.i) (byQ [(l0,h0),(l1,h1),(l2,h2)] [k0,k1,k2,k3,k4,k5] i.i)))]) rfl rfl GC JU Zy rfl u7 i.h8 (Src.row (off:=0) (fun F h9=>h9.2) (fun j q hq=>by rw [aH];rw [aA];exact hq) rfl) (by omega) (by omega) (ZX wL) (fun v70 ob70 hr70=>?_)
    refine wD rfl<|QB<|wA rfl<|wA rfl ?_
    refine QH rfl (fun w F hF h9=>C9 (s:=JN (bxQ [(l0,h0),(l1,h1),(l2,h2)] [k0,k1,k2,k3,k4,k5] i.i)) hF) (fun _=>?_)
    refine QW rfl (Q8 GC) JU Zy rfl rfl (fun b74=>?_)
    refine X0 (bs':=(ob60++ob70)++i.o9) (rot3 _ _ _) ?_
    refine Kf (bs1:=ob60++ob70) (ob:=i.o9) (n:=i.i) (k:=1) (sz:=2) (news:=[tx (JN (bxQ [(l0,h0),(l1,h1),(l2,h2)] [k0,k1,k2,k3,k4,k5] i.i)),tx (JN (bxQ [(l0,h0),(l1,h1),(l2,h2)] [k0,k1,k2,k3,k4,k5] i.i))]) rfl rfl GC JU Zy rfl u7 i.h9 (Src.row (off:=0) (fun F h9=>h9.2) (fun j q hq=>by rw [aH];rw [aA];exact hq) rfl) (by omega) (by omega) (ZX wL) (fun v75 ob75 hr75=>?_)
    refine wB rfl<|QE<|Qk<|QC<|QB<|wA rfl<|QA (Qs rfl rfl (by omega))<|wB rfl<|QE ?_
    exact Qo (⟨i.i+1,v60,v70,v75,ob60,ob70,ob75,hlt,by rw [aB,au,au,au];exact hr60,by rw [aB,au,au,aM];exact hr70,by rw [aB,au,au,aM];exact hr75⟩) (by show 3 - (i.i+1)<3 - i.i;omega) wQ wG (fun F h=>⟨h.1.1.1.1.1.1.1.1.1,trivial⟩)
   ·
    have hge:i.i=3:=by have:=wJ hc;omega
    refine Qz ?_
    repeat (first | refine Qb ?_ | refine QV (by rfl) ?_)
    refine Qc<|QC<|QG ?_
    obtain ⟨⟨rq9,rn9,rc9⟩,hv9,hn9,hc9,hfix9⟩:=Qx.fix (w0:=w) (F0:=F) (bs1:=i.o7++i.o8) (G:=_) i.h9
    refine Ra hfix9 ?_
    obtain ⟨⟨rq8,rn8,rc8⟩,hv8,hn8,hc8,hfix8⟩:=Qx.fix (w0:=w) (F0:=F) (bs1:=i.o7) (G:=_) i.h8
    refine Ra hfix8 ?_
    obtain ⟨⟨rq7,rn7,rc7⟩,hv7,hn7,hc7,hfix7⟩:=Qx.fix (w0:=w) (F0:=F) (bs1:=[]) (G:=_) i.h7
    refine Ra hfix7 ?_
    dsimp only at hn9 hn8 hn7
    have hn9:rn9=3:=hn9.trans hge
    have hn8:rn8=3:=hn8.trans hge
    have hn7:rn7=3:=hn7.trans hge
    subst hn9 hn8 hn7
    rw [hv7,hv8,hv9]
    dsimp only [Sr.v]
    refine QB<|wA rfl<|wA rfl ?_
    refine QH rfl (fun w F hF ⟨⟨⟨⟨⟨⟨⟨hGl,hA⟩,hz4⟩,hz5⟩,_⟩,hw9⟩,hw8⟩,hw7⟩=>(by have h:=uZ (a:=pa) (p:=P) (k:=3) (cap:=rc7) (xs:=((aa 3).map (bxQ [(l0,h0),(l1,h1),(l2,h2)] [k0,k1,k2,k3,k4,k5])).map JN) hF hGl (hA.eq eA) (by decide) qp (by rw [hge] at hw7;exact hw7) rfl hb.chkX (Y9 zva (by decide));rw [map_ratT] at h;exact h)) (fun _=>?_)
    refine wA rfl<|QA (QM rfl rfl)<|QA (QM rfl rfl)<|wB rfl<|wD rfl<|wF rfl<|QA (OS rfl ar_s3 JU) ?_
    refine QH rfl (fun w F hF h9=>evalSX_g (a:=pa) (p:=P) (k:=3) (cap:=3) (ss:=[(l0,h0),(l1,h1),(l2,h2)]) (R:=(X4 ([(l0,h0),(l1,h1),(l2,h2)].map ZB) P)) hF h9.1.1.1.1.1.1.1.1 (h9.1.1.1.1.1.1.1.2.eq eA) (by decide) qp (Q6.of (n:=3) (sz:=2) (cs:=[(l0,h0),(l1,h1),(l2,h2)].flatMap PJ) h9.1.1.1.1.1.1.2 rfl) rfl hb.chkB rfl zb18) (fun _=>?_)
    refine wA rfl<|QA (QM rfl rfl)<|QA (QM rfl rfl) ?_
    refine Qg Zy (fun b15=>?_)
    refine QR (vs:=[_,_]) rfl rfl rfl JU rfl .here .h2 wL<|wD rfl<|wF rfl<|wA rfl ?_
    refine QH rfl (fun w F hF ⟨⟨⟨⟨⟨⟨⟨⟨⟨hGl,hA⟩,hz4⟩,hz5⟩,_⟩,hw9⟩,hw8⟩,hw7⟩,_⟩,_⟩=>evalSX_g (a:=pa) (p:=P) (k:=3) (cap:=rc8) (ss:=((aa 3).map (ptQ [(l0,h0),(l1,h1),(l2,h2)] [k0,k1,k2,k3,k4,k5])).map txS) (R:=(X4 ((aa 3).map (ptQ [(l0,h0),(l1,h1),(l2,h2)] [k0,k1,k2,k3,k4,k5])) P)) hF hGl (hA.eq eA) (by decide) qp (by rw [hge] at hw8;exact hw8) rfl hb.chkP (by rw [map_txS]) zt18) (fun _=>?_)
    refine wA rfl<|QA (QM rfl rfl)<|QA (QM rfl rfl) ?_
    refine Qg Zy (fun b17=>?_)
    refine QR (vs:=[_,_]) rfl rfl rfl JU rfl .here .h2 wL<|wD rfl<|wF rfl<|wA rfl ?_
    refine QH rfl (fun w F hF ⟨⟨⟨⟨⟨⟨⟨⟨⟨⟨hGl,hA⟩,hz4⟩,hz5⟩,_⟩,hw9⟩,hw8⟩,hw7⟩,_⟩,_⟩,_⟩=>evalSX_g (a:=pa) (p:=P) (k:=3) (cap:=rc9) (ss:=((aa 3).map (sgQ [(l0,h0),(l1,h1),(l2,h2)] [k0,k1,k2,k3,k4,k5])).map txS) (R:=((Zp ((aa 3).map (bxQ [(l0,h0),(l1,h1),(l2,h2)] [k0,k1,k2,k3,k4,k5])) P),(Zp ((aa 3).map (bxQ [(l0,h0),(l1,h1),(l2,h2)] [k0,k1,k2,k3,k4,k5])) P))) hF hGl (hA.eq eA) (by decide) qp (by rw [hge] at hw9;exact hw9) rfl hb.chkS (by rw [map_txS];exact hone) zone) (fun _=>?_)
    refine wA rfl<|QA (QM rfl rfl)<|QA (QM rfl rfl) ?_
    refine Qg Zy (fun b19=>?_)
    refine QR (vs:=[_,_]) rfl rfl rfl JU rfl .here .h2 wL<|wD rfl<|QG<|wF rfl<|wA rfl<|QA (Qs rfl rfl (by omega))<|wA rfl<|QA (Qs rfl rfl (by omega))<|wA rfl<|QA (Qs rfl rfl (by omega))<|QA (QU rfl rfl rfl)<|wA rfl<|QL rfl rfl<|wA rfl<|QL rfl rfl ?_
    refine QH rfl (fun w F hF h9=>(by have h:=TO (s:=JN (Zp ((aa 3).map (bxQ [(l0,h0),(l1,h1),(l2,h2)] [k0,k1,k2,k3,k4,k5])) P)) hF (by have:=V6 (Zp ((aa 3).map (bxQ [(l0,h0),(l1,h1),(l2,h2)] [k0,k1,k2,k3,k4,k5])) P);omega);rw [RU (Y9 zv18 (by decide))] at h;exact h)) (fun _=>?_)
    refine QL rfl rfl<|QA (QU rfl rfl rfl)<|QA (Qh rfl rfl rfl)<|wA rfl<|QL rfl rfl<|QA (QJ (vs:=[_,_]) rfl JU .u2 .h2 rfl)<|QL rfl rfl<|QA (QJ (vs:=[_,_]) rfl JU .u1 .h2 rfl)<|QL rfl rfl<|QA (QJ (vs:=[_,_]) rfl JU .here .h2 rfl)<|QL rfl rfl ?_
    refine QW rfl (Q8 GC) JU Zy rfl rfl (fun b117=>?_)
    refine QL rfl rfl ?_
    refine QH rfl (fun w F hF ⟨⟨⟨⟨⟨⟨⟨⟨⟨⟨⟨⟨⟨hGl,hA⟩,hz4⟩,hz5⟩,_⟩,hw9⟩,hw8⟩,hw7⟩,_⟩,_⟩,_⟩,_⟩,_⟩,hs117⟩=>rboxX_g (rs:=[(X4 ([(l0,h0),(l1,h1),(l2,h2)].map ZB) P),(X4 ((aa 3).map (ptQ [(l0,h0),(l1,h1),(l2,h2)] [k0,k1,k2,k3,k4,k5])) P),((Zp ((aa 3).map (bxQ [(l0,h0),(l1,h1),(l2,h2)] [k0,k1,k2,k3,k4,k5])) P),(Zp ((aa 3).map (bxQ [(l0,h0),(l1,h1),(l2,h2)] [k0,k1,k2,k3,k4,k5])) P))]) hF (Q6.of (n:=3) (sz:=2) hs117 rfl) rfl (fun r hr=>by
      simp only [ay,aw,or_false] at hr
      rcases hr with rfl | rfl | rfl
      ·exact⟨zb18,ae hpart.1 (ae hpart.2.1 hpart.2.2)⟩
      ·exact⟨zt18,ordt⟩
      ·exact⟨zone,af⟩) (by decide)) (fun _=>?_)
    refine QL rfl rfl<|QA (QU rfl rfl rfl)<|QA (Qh rfl rfl rfl)<|QE<|QC ?_
    refine QQ rfl (fun hc=>?_) (fun hc=>?_)
    ·exact absurd hc (by simp)
    ·
     refine QO<|QC<|wE<|QA (QJ (vs:=[_,_]) rfl JU .u1 .h2 rfl)<|QA (EI (i:=0) rfl rfl ar_u6 Lx (by decide))<|QA (JQ (n:=6) ((0)*1) (fun F h9=>(Q6.of (n:=6) (sz:=1) (cs:=[k0,k1,k2,k3,k4,k5].map u8c) h9.1.1.1.1.1.1.1.1.1.1.1.2 rfl)) (by omega) rfl Lx (Bp (f:=u8c) (l:=[k0,k1,k2,k3,k4,k5]) (by show _<6;omega)))<|QA (Pw (n:=(k0:Int)) rfl gV k_3 (by omega))<|QA (Kn rfl rfl (by omega) (by decide)) ?_
     rw [show((k0:Int)%40)=((k0%40:Nat):Int) from by omega]
     refine QH rfl (fun w F hF h9=>outX_g (R:=(X4 ((aa 3).map (ptQ [(l0,h0),(l1,h1),(l2,h2)] [k0,k1,k2,k3,k4,k5])) P)) (b:=((k0%40:Nat):Int)) hF h9.1.1.1.1.1.1.1.1.1.1.1.1.1.1 ordt (zt.mono (by decide)) (by omega)) (fun _=>?_)
     refine wA rfl<|QA (QM rfl rfl)<|QA (QM rfl rfl) ?_
     refine Qg Zy (fun b21=>?_)
     refine QR (vs:=[_,_]) rfl rfl rfl JU rfl .here .h2 wL<|wD rfl<|wE<|QA (QJ (vs:=[_,_]) rfl JU .u2 .h2 rfl)<|QA (QJ (vs:=[_,_]) rfl JU .u3 .h2 rfl) ?_
     refine QH rfl (fun w F hF h9=>witX_g (A:=(X4 ((aa 3).map (ptQ [(l0,h0),(l1,h1),(l2,h2)] [k0,k1,k2,k3,k4,k5])) P)) (B:=(X4 ([(l0,h0),(l1,h1),(l2,h2)].map ZB) P)) hF h9.1.1.1.1.1.1.1.1.1.1.1.1.1.1.1 zt18 zb18 hpart) (fun _=>?_)
     refine wA rfl<|QA (QM rfl rfl)<|QA (QM rfl rfl)<|wB rfl<|wD rfl<|QG<|wF rfl<|wA rfl<|QA (Qs rfl rfl (by omega))<|QA (QU rfl rfl rfl)<|wA rfl<|QL rfl rfl<|QA (QJ (vs:=[_,_]) rfl JU .here .h2 rfl)<|QL rfl rfl ?_
     refine QH rfl (fun w F hF h9=>rspanX_g (R:=(Yf (X4 ((aa 3).map (ptQ [(l0,h0),(l1,h1),(l2,h2)] [k0,k1,k2,k3,k4,k5])) P).1 (k0%40),-Yf (-(X4 ((aa 3).map (ptQ [(l0,h0),(l1,h1),(l2,h2)] [k0,k1,k2,k3,k4,k5])) P).2) (k0%40))) hF zo ordo) (fun _=>?_)
     refine QL rfl rfl<|QA (QU rfl rfl rfl)<|QA (Qh rfl rfl rfl)<|wA rfl<|QL rfl rfl<|wA rfl<|QL rfl rfl<|QA (Yc rfl)<|QA (Qh rfl rfl rfl)<|QE<|QC ?_
     refine QQ rfl (fun hc=>?_) (fun hc=>?_)
     ·exact absurd hc (by simp)
     ·
      refine QO<|QC<|QG<|JV wG mixed (by kernel_rfl)<|QK (QD rfl)<|QK (QJ (vs:=[_,_]) rfl JU .u2 .h2 rfl) ?_
      refine Qd rfl (fun w F hF h9=>inX_g (x:=(Zp ((aa 3).map (bxQ [(l0,h0),(l1,h1),(l2,h2)] [k0,k1,k2,k3,k4,k5])) P)) (B:=(X4 ((aa 3).map (ptQ [(l0,h0),(l1,h1),(l2,h2)] [k0,k1,k2,k3,k4,k5])) P)) hF zv18 zt18 hval) (fun _=>?_)
      refine QK (QD rfl)<|Ji rfl rfl<|QK (QJ (vs:=[_,_]) rfl JU .u2 .h2 rfl)<|Ji rfl rfl<|QK (QJ (vs:=[_,_]) rfl JU .here .h2 rfl)<|Ji rfl rfl ?_
      refine Qd rfl (fun w F hF h9=>rwitX_g (A:=(X4 ((aa 3).map (ptQ [(l0,h0),(l1,h1),(l2,h2)] [k0,k1,k2,k3,k4,k5])) P)) (B:=(Yf (X4 ((aa 3).map (ptQ [(l0,h0),(l1,h1),(l2,h2)] [k0,k1,k2,k3,k4,k5])) P).1 (k0%40),-Yf (-(X4 ((aa 3).map (ptQ [(l0,h0),(l1,h1),(l2,h2)] [k0,k1,k2,k3,k4,k5])) P).2) (k0%40))) hF zt18 zo int1 int2) (fun _=>?_)
      refine QK (Qi rfl rfl rfl)<|QK (QD rfl)<|Ji rfl rfl<|QK (QJ (vs:=[_,_]) rfl JU .u1 .h2 rfl)<|Ji rfl rfl<|QK (QD rfl)<|Ji rfl rfl ?_
      refine Qd rfl (fun w F hF h9=>C9 (s:=JN (Zp ((aa 3).map (bxQ [(l0,h0),(l1,h1),(l2,h2)] [k0,k1,k2,k3,k4,k5])) P)) hF) (fun _=>?_)
      refine Ji rfl rfl<|QK (q_eqSpS rfl rfl)<|QK (Qi rfl rfl rfl)<|QK (QF rfl)<|Q3<|QC<|QS ?_
      exact wH rfl rfl (rfl) (fun F h9=>trivial)
end Go.Proofs.YtknegjaeoffnbaaGreatDoor
