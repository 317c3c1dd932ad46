/- Steps of the proof of the theorem in the last file. -/
import Derived.Test.YtknegjaeoffnbaaGreatDoorP0
import Derived.BigRegion
import Derived.StillTailTactics
import Derived.Deep.DeepCutAuto
import Derived.Deep.CutBlock
import Derived.Lib.AppendStr
import Derived.Lib.Builder
import Derived.Shelf.Strings.Builder1
import Derived.Test.YtknegjaeoffnbaaGreatDoorChecked
import Derived.Lib.Walk
import Derived.Lib.ItoaMem
import Derived.WalkKit
import Derived.BigCall
import Derived.BigGuard
import Derived.Lib.ItoaNum
import Derived.Lib.Atoi
import Derived.Lib.Repeat
import Derived.Lib.IndexMore
import Derived.Lib.IndexBytes
set_option linter.all false
set_option maxHeartbeats 4000000
namespace Go.Proofs.YtknegjaeoffnbaaGreatDoor
section
open Go.RowKit Ig
def B1 (u v:List Int) (q:Int) (k:Nat) (ds:List Int) (b c:Int):Prop :=
 ds.length=k∧DG W ds∧(0≤b∧b≤1)∧(0≤c∧c<W)∧dv W ds - W^k*(b+c)=dv W (u.take k) - q*dv W (v.take k)
theorem B1.start (u v:List Int) (q:Int):B1 u v q 0 [] 0 0:=⟨rfl,DG.nil _,by decide,by decide,by simp⟩
theorem B1.step {u v ds:List Int} {q b c:Int} {k:Nat} (h:B1 u v q k ds b c) (hu:DG W u) (hv:DG W v) (hq:0≤q∧q<W) :
  B1 u v q (k+1) (ds++[ZF (Qb u k) (XC (Jv q (Qb v k)) c 0) b]) (Kl (Qb u k) (XC (Jv q (Qb v k)) c 0) b)
   (Xm q (Qb v k)+Xd (Jv q (Qb v k)) c 0):=by
 obtain ⟨h1,h2,h3,h4,h5⟩:=h
 obtain ⟨_,m1,m2,m3,m4,_,_⟩:=Ex hq (JW hv k) h4 (by decide:(0:Int)≤0∧(0:Int)<W)
 obtain ⟨a1,_,_⟩:=WU m1 h4 (by decide:(0:Int)≤0∧(0:Int)≤1)
 obtain ⟨s1,s2,s3⟩:=BJ (JW hu k) m2 h3
 have e1:Jv q (Qb v k)+W*Xm q (Qb v k)=q*Qb v k:=by unfold Jv Xm;rw [Int.add_comm];exact Int.mul_ediv_add_emod _ _
 refine⟨by simp [h1],h2.append (DG.cons s2.1 s2.2 (DG.nil _)),s3,m3,?_⟩
 rw [XS,h1,J6,J6,Int.pow_succ]
 generalize Jv q (Qb v k)=lo at *
 generalize Xm q (Qb v k)=hi at *
 generalize Xd lo c 0=ch at *
 generalize XC lo c 0=cl at *
 generalize Kl (Qb u k) cl b=sh at *
 generalize ZF (Qb u k) cl b=sl at *
 generalize Qb u k=a at *
 generalize Qb v k=x at *
 have e2:W^k*(sl - W*sh)=W^k*(a - cl - b):=by rw [s1]
 have e3:W^k*(cl+W*ch)=W^k*(lo+c+0):=by rw [a1]
 have e4:W^k*(lo+W*hi)=W^k*(q*x):=by rw [e1]
 grind
theorem OZ {u v ds:List Int} {q b c:Int} {n:Nat} (h:Vg u v n) (m:B1 u v q (n+2) ds b c) (hq:(q - 1)*dv W v≤dv W u∧dv W u<(q+1)*dv W v)
  (hb:Kl (Qb u (n+2)) c b=0) :
  DG W (ds++[ZF (Qb u (n+2)) c b])∧q=dv W u / dv W v∧dv W (ds++[ZF (Qb u (n+2)) c b])=dv W u%dv W v:=by
 obtain ⟨h1,h2,h3,h4,h5⟩:=m
 obtain ⟨s1,s2,s3⟩:=BJ (JW h.hu (n+2)) h4 h3
 rw [List.take_of_length_le (by have:=h.lv;omega:v.length≤n+2)] at h5
 have e:=J6 u (n+2)
 rw [List.take_of_length_le (by have:=h.lu;omega:u.length≤n+2+1)] at e
 have hD:DG W (ds++[ZF (Qb u (n+2)) c b]):=h2.append (DG.cons s2.1 s2.2 (DG.nil _))
 have h0:=Qu Jj hD
 have hvp:0<dv W v:=by
  have:=h.lt;have:=Qu Jj h.hu
  refine Int.not_le.1 fun hc=>?_
  have:W*dv W v≤W*0:=Int.mul_le_mul_of_nonneg_left hc (by decide)
  omega
 have hv:dv W (ds++[ZF (Qb u (n+2)) c b])=dv W u - q*dv W v:=by
  rw [XS,h1,e];rw [hb] at s1
  generalize ZF (Qb u (n+2)) c b=sl at *
  have:W^(n+2)*(sl - W*0)=W^(n+2)*(Qb u (n+2) - c - b):=by rw [s1]
  grind
 rw [hv] at h0 ⊢
 refine⟨hD,(Xw hvp (by omega) hq.2).symm,(Zg (by omega) hq.2).symm⟩
theorem qV {u v ds es:List Int} {q b c k:Int} {n:Nat} (h:Vg u v n) (m:B1 u v q (n+2) ds b c) (hq:(q - 1)*dv W v≤dv W u∧dv W u<(q+1)*dv W v)
  (hb:Kl (Qb u (n+2)) c b=1) (ha:Dm ds v (n+2) es k) :
  q - 1=dv W u / dv W v∧dv W es=dv W u%dv W v∧ZF (Qb u (n+2)) c b+k=W:=by
 obtain ⟨h1,h2,h3,h4,h5⟩:=m
 obtain ⟨a1,a2,a3,a4⟩:=ha
 obtain ⟨s1,s2,s3⟩:=BJ (JW h.hu (n+2)) h4 h3
 rw [List.take_of_length_le (by have:=h.lv;omega:v.length≤n+2)] at h5 a4
 rw [List.take_of_length_le (by omega:ds.length≤n+2)] at a4
 have e:=J6 u (n+2)
 rw [List.take_of_length_le (by have:=h.lu;omega:u.length≤n+2+1)] at e
 have hvp:0<dv W v:=by
  have:=h.lt;have:=Qu Jj h.hu
  refine Int.not_le.1 fun hc=>?_
  have:W*dv W v≤W*0:=Int.mul_le_mul_of_nonneg_left hc (by decide)
  omega
 have d1:=Z1 Jj a2
 have d0:=Qu Jj a2
 have dd0:=Qu Jj h2
 have dd1:=Z1 Jj h2
 have v1:=Z1 Jj h.hv
 rw [h.lv] at v1
 rw [a1] at d1
 rw [h1] at dd1
 rw [hb] at s1
 have hp:=pow_pos Jj (n+2)
 generalize ZF (Qb u (n+2)) c b=sl at *
 have key:dv W ds+W^(n+2)*(sl - W)=dv W u - q*dv W v:=by
  have s2:W^(n+2)*(sl - W)=W^(n+2)*Qb u (n+2) - W^(n+2)*(b+c):=by
   rw [← Int.mul_sub];congr 1;omega
  rw [e,s2];omega
 have hneg:dv W u<q*dv W v:=by
  have:W^(n+2)*(sl - W)≤W^(n+2)*(-1):=Int.mul_le_mul_of_nonneg_left (by omega) (by omega)
  omega
 have e1:(q - 1)*dv W v=q*dv W v - dv W v:=by rw [Int.sub_mul,Int.one_mul]
 have e2:(q - 1+1)*dv W v=q*dv W v:=by rw [show q - 1+1=q from by omega]
 have hR:dv W u - (q - 1)*dv W v=dv W es+W^(n+2)*(sl+k - W):=by
  have e3:W^(n+2)*(sl+k - W)=W^(n+2)*(sl - W)+W^(n+2)*k:=by rw [← Int.mul_add];congr 1;omega
  omega
 have hk:sl+k=W:=by
  have r0:0≤dv W u - (q - 1)*dv W v:=by omega
  have r1:dv W u - (q - 1)*dv W v<W^(n+2):=by omega
  rw [hR] at r0 r1
  rcases Int.lt_trichotomy (sl+k) W with g | g | g
  ·have:W^(n+2)*(sl+k - W)≤W^(n+2)*(-1):=Int.mul_le_mul_of_nonneg_left (by omega) (by omega)
   omega
  ·exact g
  ·have:W^(n+2)*1≤W^(n+2)*(sl+k - W):=Int.mul_le_mul_of_nonneg_left (by omega) (by omega)
   omega
 refine⟨(Xw hvp (by omega) (by rw [e2];exact hneg)).symm,?_,hk⟩
 rw [Zg (q:=q - 1) (by omega) (by rw [e2];exact hneg),hR,hk];simp
structure GK (B:Nat) (w w':World):Prop where
 os:w'.os=w.os
 tape:w'.tape=w.tape
 output:w'.output=w.output
 size:w.heap.size≤w'.heap.size
 block:∀ k,k<w.heap.size→k≠B→w'.heap[k]?=w.heap[k]?
theorem GK.refl (B:Nat) (w:World):GK B w w:=⟨rfl,rfl,rfl,Nat.le_refl _,fun _ _ _=>rfl⟩
theorem GK.U8 {w w':World} (B:Nat) (h:Ext w w'):GK B w w':=⟨h.os,h.tape,h.output,h.size,fun k hk _=>h.block k hk⟩
theorem GK.trans {B:Nat} {a b c:World} (h:GK B a b) (k:GK B b c):GK B a c :=
 ⟨k.os.trans h.os,k.tape.trans h.tape,k.output.trans h.output,Nat.le_trans h.size k.size,fun i hi hn=>(k.block i (Nat.lt_of_lt_of_le hi h.size) hn).trans (h.block i hi hn)⟩
theorem GK.ext {B:Nat} {a b c:World} (h:GK B a b) (k:Ext b c):GK B a c:=h.trans (GK.U8 B k)
theorem GK.drew {B:Nat} {a b:World} (h:GK B a b):GK B a b.drew:=⟨h.os,h.tape,h.output,h.size,h.block⟩
theorem GK.drewN {B:Nat} {a b:World} (h:GK B a b) (n:Nat):GK B a (b.drewN n):=⟨h.os,h.tape,h.output,h.size,h.block⟩
theorem GK.setCell {B:Nat} {a b:World} (h:GK B a b) (off:Nat) (v:Value):GK B a (b.setCell ⟨B,off,none⟩ v) :=
 h.trans ⟨rfl,rfl,rfl,by simp [World.setCell],fun k _ hn=>Below.heap_setCell _ _ _ _ hn⟩
theorem GK.xu {B:Nat} {a b c:World} (h:GK B b c) (k:Ext a b) (hB:a.heap.size≤B):Ext a c :=
 ⟨h.os.trans k.os,h.tape.trans k.tape,h.output.trans k.output,Nat.le_trans k.size h.size,fun i hi=>(h.block i (Nat.lt_of_lt_of_le hi k.size) (by omega)).trans (k.block i hi)⟩
theorem GK.cell {B:Nat} {w w':World} (h:GK B w w') {p:Addr} {v:Value} (hp:p.block≠B) (hv:w.cell? p=some v):w'.cell? p=some v:=by
 rw [World.cell?_of_block (w:=w) (h.block p.block (World.block_lt_of_cell? w p hv) hp)];exact hv
theorem GK.cells {α:Type} [Inhabited α] {B:Nat} {w w':World} (h:GK B w w') {q:Option Addr} {enc:Gz α} {l:List α} (hq:∀ a,q=some a→a.block≠B) (hc:Cells w q enc l):Cells w' q enc l:=by
 intro i hi;obtain ⟨b,off,h1,h2,h3⟩:=hc i hi
 exact⟨b,off,h1,(by obtain ⟨c,fr,e⟩:=id h2;exact⟨c,fr,by rw [h.block b h2.lt (show b≠B from hq ⟨b,off,none⟩ h1)];exact e⟩),h.cell (p:=⟨b,off+i,none⟩) (show b≠B from hq ⟨b,off,none⟩ h1) h3⟩
theorem GK.Bw {α:Type} {B b E:Nat} {w w':World} (h:GK B w w') {enc:Gz α} {l:List α} (hb:b≠B) (k:YD w b E enc l):YD w' b E enc l:=by
 unfold YD;rw [h.block b k.lt hb];exact k
theorem AE {pre ds post r:List Int} {x:Int} {j k:Nat} (hj:pre.length=j) (hk:ds.length=k):(pre++((ds++x::r)++post)).getD (j+k) default=x:=by
 subst hj hk;simp [List.getD]
theorem AD {pre ds post r:List Int} {x:Int} {j k:Nat} (hj:pre.length=j) (hk:ds.length=k):j+k<(pre++((ds++x::r)++post)).length:=by
 subst hj hk;simp
theorem Ey {pre ds post r:List Int} {x:Int} {j k:Nat} (hj:pre.length=j) (hk:ds.length=k) (y:Int):(pre++((ds++x::r)++post)).set (j+k) y=pre++((ds++y::r)++post):=by
 subst hj;rw [List.set_append_right _ _ (by omega),Nat.add_sub_cancel_left,List.append_assoc,List.cons_append,V9 _ _ _ _ _ hk,List.append_assoc,List.cons_append]
end
section
open Go.RowKit Ig
theorem AI {l:List Int} {n:Nat} (h:DG W l) (hn:NZ l) (h1:W^n≤dv W l) (h2:dv W l<W^(n+1)):l.length=n+1:=by
 have a:=Z1 Jj h
 have hl:l≠[]:=by rintro rfl;have:=pow_pos Jj n;simp at h1;omega
 have b:=Bk Jj h hn hl
 have hlen:0<l.length:=List.length_pos_iff.2 hl
 rcases Nat.lt_trichotomy l.length (n+1) with g | g | g
 ·have:=KH (b:=W) (by decide) (m:=l.length) (n:=n) (by omega);omega
 ·exact g
 ·have:=KH (b:=W) (by decide) (m:=n+1) (n:=l.length - 1) (by omega);omega
def jf (la:List Int) (y:Int) (k:Nat) (qs:List Int) (r:Int):Prop :=
 qs.length+k=la.length∧DG W qs∧(0≤r∧r<y)∧dv W (la.drop k)=y*dv W qs+r
theorem jf.step {la qs:List Int} {y r:Int} {k:Nat} (h:jf la y (k+1) qs r) (ha:DG W la) (hy:0<y∧y<W) :
  jf la y k (AY r (Qb la k) y::qs) (IX r (Qb la k) y):=by
 obtain ⟨h1,h2,h3,h4⟩:=h
 have hd:=JW ha k
 have m0:0≤r*W:=Int.mul_nonneg h3.1 (by decide)
 have m1:(r+1)*W≤y*W:=Int.mul_le_mul_of_nonneg_right (by omega) (by decide)
 have q1:=Int.mul_ediv_add_emod (r*W+Qb la k) y
 have q2:=Int.emod_nonneg (r*W+Qb la k) (by omega:y≠0)
 have q3:=Int.emod_lt_of_pos (r*W+Qb la k) hy.1
 have q4:0≤(r*W+Qb la k) / y:=Int.ediv_nonneg (by omega) (by omega)
 have q5:(r*W+Qb la k) / y<W:=by
  refine Int.ediv_lt_of_lt_mul hy.1 ?_
  rw [Int.add_mul] at m1;rw [Int.mul_comm W y];omega
 refine⟨by simp;omega,DG.cons q4 q5 h2,⟨q2,q3⟩,?_⟩
 rw [J8 (by omega),YO,YO,h4]
 unfold AY IX
 generalize (r*W+Qb la k) / y=q at *
 generalize (r*W+Qb la k)%y=t at *
 grind
def VU (U V:Int) (n k m:Nat) (o qs:List Int):Prop :=
 o.length=m+1∧DG W o∧qs.length+k=m - (n+2)+1∧DG W qs∧U=V*(W^k*dv W qs)+dv W o∧dv W o<W^k*V
theorem VU.start {o:List Int} {n m s:Nat} {A B:Int} (ho:o.length=m+1) (hd:DG W o) (hv:dv W o=A*p2 s) (hs:s<64) (hA:A<W^m)
  (hB:W^(n+1)*9223372036854775808≤B*p2 s) (hm:n+2≤m):VU (A*p2 s) (B*p2 s) n (m - (n+2)+1) m o []:=by
 refine⟨ho,hd,by simp,DG.nil _,by simp [hv],?_⟩
 rw [hv]
 have hp:=xC hs
 have hp0:=Zp s
 have k1:A*p2 s<W^m*p2 s:=Int.mul_lt_mul_of_pos_right hA hp0
 have k2:W^m*p2 s≤W^m*9223372036854775808:=Int.mul_le_mul_of_nonneg_left (by have:=WV;omega) (Int.le_of_lt (pow_pos Jj m))
 have k3:W^(m - (n+2)+1)*(W^(n+1)*9223372036854775808)≤W^(m - (n+2)+1)*(B*p2 s):=Int.mul_le_mul_of_nonneg_left hB (Int.le_of_lt (pow_pos Jj _))
 have e:W^(m - (n+2)+1)*(W^(n+1)*9223372036854775808)=W^m*9223372036854775808:=by
  rw [← Int.mul_assoc,← Int.pow_add,show m - (n+2)+1+(n+1)=m from by omega]
 omega
theorem VU.xp {U V:Int} {n j m:Nat} {o qs v:List Int} (h:VU U V n (j+1) m o qs) (hv:DG W v) (lv:v.length=n+2) (nz:0<Qb v (n+1)) (hV:dv W v=V) (_hm:n+2≤m) :
  ∃ pre u post,o=pre++(u++post)∧pre.length=j∧Vg u v n∧dv W post=0∧post.length=m - (j+n+2)∧j+n+2≤m:=by
 obtain ⟨h1,h2,h3,h4,h5,h6⟩:=h
 have hj:j+n+2≤m:=by omega
 have e1:o=o.take j++((o.drop j).take (n+3)++(o.drop j).drop (n+3)):=by rw [List.take_append_drop,List.take_append_drop]
 have l1:(o.take j).length=j:=by rw [List.length_take];omega
 have l2:((o.drop j).take (n+3)).length=n+3:=by rw [List.length_take,List.length_drop];omega
 have l3:((o.drop j).drop (n+3)).length=m - (j+n+2):=by rw [List.length_drop,List.length_drop];omega
 have d1:DG W (o.take j):=h2.take j
 have d2:DG W ((o.drop j).take (n+3)):=(h2.drop j).take _
 have d3:DG W ((o.drop j).drop (n+3)):=(h2.drop j).drop _
 have e2:dv W o=dv W (o.take j)+W^j*(dv W ((o.drop j).take (n+3))+W^(n+3)*dv W ((o.drop j).drop (n+3))):=by
  rw [KM W o j (by omega),KM W (o.drop j) (n+3) (by rw [List.length_drop];omega)]
 generalize o.take j=pre at *
 generalize (o.drop j).take (n+3)=u at *
 generalize (o.drop j).drop (n+3)=post at *
 have n1:=Qu Jj d1
 have n2:=Qu Jj d2
 have n3:=Qu Jj d3
 have hp:=pow_pos Jj j
 have vlt:=Z1 Jj hv
 rw [lv,hV] at vlt
 have e3:W^(j+1)*V=W^j*(W*V):=by rw [Int.pow_succ];grind
 have hU:dv W u+W^(n+3)*dv W post<W*V:=by
  refine Int.not_le.1 fun hc=>?_
  have:=Int.mul_le_mul_of_nonneg_left hc (Int.le_of_lt hp)
  omega
 have hpost:dv W post=0:=by
  refine Int.le_antisymm (Int.not_lt.1 fun hc=>?_) n3
  have k1:W^(n+3)*1≤W^(n+3)*dv W post:=Int.mul_le_mul_of_nonneg_left (by omega) (Int.le_of_lt (pow_pos Jj _))
  have k2:W*V≤W*W^(n+2):=Int.mul_le_mul_of_nonneg_left (by omega) (by decide)
  have k3:W^(n+3)=W*W^(n+2):=by rw [Int.pow_succ];grind
  omega
 refine⟨pre,u,post,e1,l1,⟨d2,hv,l2,lv,nz,?_⟩,hpost,l3,hj⟩
 rw [hpost] at hU;rw [hV];simpa using hU
theorem VU.step {U V:Int} {n j m:Nat} {pre u post qs v u':List Int} (h:VU U V n (j+1) m (pre++(u++post)) qs) (lj:pre.length=j) (lu:u.length=n+3)
  (hd':DG W u') (lu':u'.length=n+3) (hV:dv W v=V) (hVp:0<V) (hpost:dv W post=0) (hq:dv W u / dv W v<W) (hu0:0≤dv W u) (hval:dv W u'=dv W u%dv W v) :
  VU U V n j m (pre++(u'++post)) (dv W u / dv W v::qs):=by
 obtain ⟨h1,h2,h3,h4,h5,h6⟩:=h
 rw [hV] at *
 have q0:0≤dv W u / V:=Int.ediv_nonneg hu0 (by omega)
 have q1:=Int.mul_ediv_add_emod (dv W u) V
 have r0:=Int.emod_nonneg (dv W u) (by omega:V≠0)
 have r1:=Int.emod_lt_of_pos (dv W u) hVp
 have dpre:DG W pre:=h2.left
 have dpost:DG W post:=h2.right.right
 have p1:=Z1 Jj dpre
 rw [lj] at p1
 have hp:=pow_pos Jj j
 rw [ZL,ZL,lj,hpost] at h5 h6
 refine⟨by simp at h1 ⊢;omega,dpre.append (hd'.append dpost),by simp;omega,DG.cons q0 hq h4,?_,?_⟩
 ·rw [ZL,ZL,lj,hpost,YO,hval,h5,Int.pow_succ]
  generalize dv W u / V=q at *
  generalize dv W u%V=r at *
  have e:W^j*(V*q+r)=W^j*dv W u:=by rw [q1]
  grind
 ·rw [ZL,ZL,lj,hpost,hval]
  have k1:W^j*(dv W u%V+1)≤W^j*V:=Int.mul_le_mul_of_nonneg_left (by omega) (by omega)
  rw [Int.mul_add] at k1
  simp only [Int.mul_zero,Int.add_zero]
  omega
def Ki (o:List Int) (s k:Nat) (ds:List Int):Prop :=
 ds.length=k∧DG W ds∧dv W ds*p2 s+Qb o 0%p2 s=dv W (o.take k)+W^k*(Qb o k%p2 s)
theorem Ki.start (o:List Int) (s:Nat):Ki o s 0 []:=⟨rfl,DG.nil _,by simp⟩
theorem Aq {x:Int} {s:Nat} (hs:s<64) (hx:0≤x∧x<W):0≤x / p2 s∧x / p2 s<p2 (64 - s):=by
 refine⟨Int.ediv_nonneg hx.1 (Int.le_of_lt (Zp s)),Int.ediv_lt_of_lt_mul (Zp s) ?_⟩
 rw [WI hs];exact hx.2
theorem Ki.step {o ds:List Int} {s k:Nat} (h:Ki o s k ds) (ho:DG W o) (hs:s<64) (hs0:0<s) :
  Ki o s (k+1) (ds++[Qb o k / p2 s+Qb o (k+1)*p2 (64 - s)%W]):=by
 obtain ⟨h1,h2,h3⟩:=h
 have hx:=JW ho k
 have b:=Aq hs hx
 obtain ⟨_,c⟩:=Ro (x:=Qb o (k+1)) (s:=64 - s) (by omega) b.1 b.2
 have hy:0≤Qb o (k+1)*p2 (64 - s)%W:=Int.emod_nonneg _ (by decide)
 refine⟨by simp [h1],h2.append (DG.cons (by omega) c (DG.nil _)),?_⟩
 rw [XS,h1,J6,Int.pow_succ]
 have e1:Qb o (k+1)*p2 (64 - s)%W=p2 (64 - s)*(Qb o (k+1)%p2 s):=by
  have:=Ar (x:=Qb o (k+1)) (s:=64 - s) (by omega)
  rw [show 64 - (64 - s)=s from by omega] at this;exact this
 rw [e1]
 have e2:=Int.mul_ediv_add_emod (Qb o k) (p2 s)
 have e3:=WI hs
 generalize Qb o k / p2 s=a at *
 generalize Qb o k%p2 s=b' at *
 generalize Qb o (k+1)%p2 s=c' at *
 have e4:W^k*(p2 s*a+b')=W^k*Qb o k:=by rw [e2]
 have e5:W^k*(p2 (64 - s)*p2 s)*c'=W^k*W*c':=by rw [e3]
 grind
theorem Ki.Li {o ds:List Int} {k:Nat} (h:Ki o 0 k ds) (ho:DG W o):Ki o 0 (k+1) (ds++[Qb o k / p2 0]):=by
 obtain ⟨h1,h2,h3⟩:=h
 have hx:=JW ho k
 simp only [Rn,Int.emod_one,Int.ediv_one,Int.mul_one,Int.mul_zero,Int.add_zero] at *
 exact⟨by simp [h1],h2.append (DG.cons hx.1 hx.2 (DG.nil _)),by simp only [Rn,Int.emod_one,Int.mul_one,Int.mul_zero,Int.add_zero];rw [XS,h1,h3,J6]⟩
theorem jI {o qs ds:List Int} {n m s:Nat} {A B:Int} (h:VU (A*p2 s) (B*p2 s) n 0 m o qs) (hs:s<64) (hB:0<B) (hBn:B*p2 s<W^(n+2)) (hm:n+2≤m)
  (hr:Ki o s (n+2) ds):dv W qs=A / B∧dv W ds=A%B:=by
 obtain ⟨h1,h2,h3,h4,h5,h6⟩:=h
 obtain ⟨r1,r2,r3⟩:=hr
 simp only [Int.pow_zero,Int.one_mul] at h5 h6
 have hp:=Zp s
 have n0:=Qu Jj h2
 have e2:=KM W o (n+2) (by omega)
 have t0:=Qu Jj (h2.take (n+2))
 have t1:=Qu Jj (h2.drop (n+2))
 have z:dv W (o.drop (n+2))=0:=by
  refine Int.le_antisymm (Int.not_lt.1 fun hc=>?_) t1
  have k1:W^(n+2)*1≤W^(n+2)*dv W (o.drop (n+2)):=Int.mul_le_mul_of_nonneg_left (by omega) (Int.le_of_lt (pow_pos Jj _))
  omega
 have zd:Qb o (n+2)=0:=by
  have e3:=J8 (l:=o) (k:=n+2) (by omega)
  rw [e3,YO] at z
  have d0:=JW h2 (n+2)
  have d1:=Qu Jj (h2.drop (n+2+1))
  have d2:0≤W*dv W (o.drop (n+2+1)):=Int.mul_nonneg (by decide) d1
  omega
 rw [zd,Int.zero_emod,Int.mul_zero,Int.add_zero] at r3
 rw [z,Int.mul_zero,Int.add_zero] at e2
 have hmod:Qb o 0%p2 s=0:=by
  have f1:dv W o=Qb o 0+W*dv W (o.drop 1):=by
   have:=J8 (l:=o) (k:=0) (by omega)
   rw [List.drop_zero] at this
   rw [congrArg (dv W) this,YO]
  have f2:dv W o=p2 s*(A - B*dv W qs):=by grind
  have f3:Qb o 0=p2 s*(A - B*dv W qs - p2 (64 - s)*dv W (o.drop 1)):=by
   have:=WI hs
   have e:Qb o 0=p2 s*(A - B*dv W qs) - W*dv W (o.drop 1):=by omega
   rw [e,← this];grind
  rw [f3];exact Int.mul_emod_right _ _
 rw [hmod,Int.add_zero,← e2] at r3
 have key:A=B*dv W qs+dv W ds:=by
  have:p2 s*A=p2 s*(B*dv W qs+dv W ds):=by rw [Int.mul_comm,h5,← r3];grind
  exact Int.eq_of_mul_eq_mul_left (by omega) this
 have hlt:dv W ds<B:=by
  refine Int.not_le.1 fun hc=>?_
  have:=Int.mul_le_mul_of_nonneg_right hc (Int.le_of_lt hp)
  omega
 have hds:=Qu Jj r2
 have g1:dv W qs*B≤A:=by rw [Int.mul_comm];omega
 have g2:A<(dv W qs+1)*B:=by rw [Int.add_mul,Int.mul_comm (dv W qs)];omega
 exact⟨(Xw hB g1 g2).symm,by rw [Zg g1 g2,Int.mul_comm (dv W qs)];omega⟩
end
section
open Go.RowKit Ig
def SU (A B:Int) (r:Value) (w':World):Prop :=
 ∃ p p' lq lr,r = .tuple #[p,p']∧SL w' p JY lq∧SL w' p' JY lr∧(DG W lq∧NZ lq)∧(DG W lr∧NZ lr)∧dv W lq=A / B∧dv W lr=A%B
theorem GH {x y:Int} (h:y≤x):0≤ZU x y:=by unfold ZU;split<;>(try split)<;>omega
theorem T2 (v v':Value) (la lb:List Int) (w:World) (ha:DG W la) (hb:DG W lb) (na:NZ la) (nb:NZ lb) (hs:SL w v JY la) (hs':SL w v' JY lb) (hlt:dv W la<dv W lb) :
  Calls Tryz.prog 247 #[v,v'] w fun e w'=>ZG w (SU (dv W la) (dv W lb)) e w':=by
 have H3:=Lib.hid (Vf hlt)
 have H0:=Lib.hid (Qu Jj ha)
 have HL:=Lib.hid hlt
 clear hlt
 go_enter Tryz.func247,Tryz.ntmps247
 go_wp2_with (go_at_call 255;refine(ZN _ _ _ _ _ ha hb na nb hs hs').mono ?_;rw [H3.out];rintro e w' ⟨rfl,hx⟩)
 go_ret2
 exact⟨_,rfl,⟨_,_,[],la,rfl,SL.nil _ _,hs.ext hx,⟨DG.nil _,by simp [NZ]⟩,⟨ha,na⟩,(Int.ediv_eq_zero_of_lt H0.out HL.out).symm,(Int.emod_eq_of_lt H0.out HL.out).symm⟩,hx⟩
theorem S0 {α:Type} (x z:α) (k:Nat) (qs:List α):(List.replicate (k+1) z++qs).set k x=List.replicate k z++x::qs:=by
 rw [List.replicate_succ',List.append_assoc,List.set_append_right _ _ (by simp)];simp
set_option maxRecDepth 100000 in
set_option maxHeartbeats 800000 in
theorem AW (v:Value) (q':Option Addr) (cap':Nat) (la:List Int) (y:Int) (w:World) (ha:DG W la) (hy:0<y∧y<W) (na:NZ la) (hs:SL w v JY la) (hs':SL w (.slice q' 1 cap') JY [y]) (hge:y≤dv W la) (h1:la.length≤100000000000) :
  Calls Tryz.prog 247 #[v,.slice q' 1 cap'] w fun e w'=>ZG w (SU (dv W la) y) e w':=by
 have H3:0≤ZU (dv W la) y:=GH hge
 have hb:DG W [y]:=DG.cons (by omega) hy.2 (DG.nil _)
 have nb:NZ [y]:=by simp [NZ];omega
 have HS:=Lib.hid hs
 obtain ⟨q,cap,rfl,hcap,hmax,hca⟩:=hs
 have HA:=Lib.hid hca
 have HS':=Lib.hid hs'
 obtain ⟨q2,cap2,e2,hcap2,hmax2,hcb⟩:=hs'
 obtain ⟨by1,oy,hq,hby,hcy⟩:=hcb 0 (by simp)
 simp only [List.length_cons,List.length_nil,Value.slice.injEq] at e2
 obtain ⟨rfl,_,rfl⟩:=e2
 subst hq
 have hcy:w.cell? ⟨by1,oy,none⟩=some (.int .u64 y):=by simpa [JY] using hcy
 have hmk:=fun w=>Z2 la.length (by omega) w
 clear hca hcb
 go_enter Tryz.func247,Tryz.ntmps247
 go_wp2_with (go_at_call 255;refine(ZN _ _ _ _ _ ha hb na nb HS.out HS'.out).mono ?_;rintro e w1 ⟨rfl,hx1⟩)
 go_loopw [8,7] (fun i r wr=>∃ (k:Nat) (qs:List Int) (rr:Int),k≤la.length∧i = .int .i64 ((k:Int) - 1)∧r = .int .u64 rr∧jf la y k qs rr∧YD wr w1.heap.size 248 JY (List.replicate k 0++qs)∧Ext w1 wr)
  (fun i _ _=>(intOf i+1).toNat)
 case atStart=>exact⟨la.length,[],0,Nat.le_refl _,rfl,rfl,⟨by simp,DG.nil _,⟨Int.le_refl _,hy.1⟩,by simp⟩,by rw [List.append_nil];exact YD.made w1 _ JY 0 _ _ rfl,(Ext.refl _).alloc _⟩
 case round =>
  obtain ⟨k,qs,rr,hk,rfl,rfl,hI,hB,hE⟩:=hrel
  clear hmk
  cases k with
  |zero =>
   obtain ⟨i1,i2,i3,i4⟩:=hI
   have hW:=WV
   have hdr:DG W [rr]:=DG.cons i3.1 (by omega) (DG.nil _)
   simp only [List.replicate_zero,List.nil_append] at hB
   have hSL:=SL.W8 hB la.length (by omega) (by omega)
   rw [List.take_of_length_le (by omega),show qs.length=la.length from by omega] at hSL
   have HSL:=Lib.hid hSL
   have HB:=Lib.hid hB
   have HF:Hid (dv W qs=dv W la / y∧rr=dv W la%y):=by
    rw [List.drop_zero] at i4
    have g1:dv W qs*y≤dv W la:=by rw [Int.mul_comm];omega
    have g2:dv W la<(dv W qs+1)*y:=by rw [Int.add_mul,Int.mul_comm (dv W qs)];omega
    exact⟨(Xw hy.1 g1 g2).symm,by rw [Zg g1 g2,Int.mul_comm (dv W qs)];omega⟩
   clear hSL hB i1 i4 hW
   go_wp2_with fail
   refine(KD _ _ _ HSL.out).mono ?_
   rintro e w' ⟨⟨v1,rfl,hv1⟩,rfl⟩
   go_wp2_with fail
   refine(KD _ [rr] _ ⟨_,1,rfl,Nat.le_refl _,by decide,(YD.new _ 248 JY [rr] _ rfl).row.cells (YD.new _ 248 JY [rr] _ rfl).NL⟩).mono ?_
   rintro e w' ⟨⟨v2,rfl,hv2⟩,rfl⟩
   go_wp2
   go_ret2
   refine⟨_,rfl,⟨_,_,_,_,rfl,hv1.ext ((Ext.refl _).alloc _),hv2,⟨i2.Q2,Xh _⟩,⟨hdr.Q2,Xh _⟩,by rw [XB];exact HF.out.1,by rw [XB];simpa using HF.out.2⟩,(hx1.trans hE).alloc _⟩
  |succ k =>
   have hlt:k<la.length:=by omega
   have hst:=hI.step ha hy
   obtain ⟨i1,i2,i3,i4⟩:=hI
   obtain ⟨b,off,rfl,hba,hc⟩:=HA.out k hlt
   rw [Zd hlt] at hc
   simp only [JY] at hc
   have hx2:=hx1.trans hE
   have hc:=hx2.cell hc
   have hcy2:=hx2.cell hcy
   have hx:=JW ha k
   have hlen:k<(List.replicate (k+1) 0++qs).length:=by simp;omega
   have hcell:=hB.cell hlen
   have hz:(List.replicate (k+1) (0:Int)++qs).getD k default=0:=by simp [List.getD,List.getElem?_append_left]
   rw [hz] at hcell
   simp only [JY] at hcell
   have hfr:=hB.frozen k
   have HB:=Lib.hid hB
   have HST:=Lib.hid hst
   have e1:((k+1:Nat):Int) - 1=(k:Int):=by omega
   have hk0:(0:Int)≤(k:Int):=by omega
   have hk1:(k:Int)<(la.length:Int):=by omega
   have hbne:b≠w1.heap.size:=by have:=Nat.lt_of_lt_of_le hba.lt hx1.size;omega
   have hyne:by1≠w1.heap.size:=by have:=Nat.lt_of_lt_of_le hby.lt hx1.size;omega
   clear hB hlen hz hst i4 i1
   rw [e1]
   clear e1
   go_wp2
   go_region_held3 (fun w'=>w'.cell? ⟨b,off+k,none⟩=some (.int .u64 (Qb la k))∧w'.cell? ⟨by1,oy,none⟩=some (.int .u64 y))
    (first | exact⟨hdx.cell hc,hdx.cell hcy2⟩ | exact⟨Xc hbne (hdx.cell hc),Xc hyne (hdx.cell hcy2)⟩ | go_keep)
    (first | (go_at_call 284;refine(P5 _ _ _ _ i3 hx hy.2).mono ?_;rintro e w' ⟨rfl,hdx⟩;have hcell':=hdx.cell hcell;have hfr':=(HB.out.ext (((Ext.refl _).drewN _).trans hdx)).frozen k))
   have hBs:=(HB.out.ext (((Ext.refl _).drewN _).trans hdx)).set k (AY rr (Qb la k) y)
   rw [S0] at hBs
   have HBs:=Lib.hid hBs
   clear hBs
   go_wp2
   go_roundw
   case rel=>exact⟨k,_,_,by omega,by go_num,rfl,HST.out,HBs.out,(hE.trans (((Ext.refl _).drewN _).trans hdx)).Xl (Nat.le_refl _) _⟩
   case measure=>simp [intOf]
end
section
open Go.RowKit Ig
structure Vh (w:World) (u v pre post:List Int) (n j B bv ov:Nat):Prop where
 hB:YD w B 248 JY (pre++(u++post))
 hv:Cells w (some ⟨bv,ov,none⟩) JY v
theorem Vh.ext {w w':World} {u v pre post:List Int} {n j B bv ov:Nat} (h:Vh w u v pre post n j B bv ov) (k:Ext w w'):Vh w' u v pre post n j B bv ov :=
 ⟨h.hB.ext k,h.hv.ext k⟩
theorem Vh.uj {w:World} {u v pre post:List Int} {n j B bv ov:Nat} (h:Vh w u v pre post n j B bv ov) (hj:pre.length=j) (i:Nat) (hi:i<u.length) :
  w.cell? ⟨B,j+i,none⟩=some (.int .u64 (Qb u i)):=by
 have h1:=h.hB.cell (i:=j+i) (by simp;omega)
 have e:(pre++(u++post)).getD (j+i) default=Qb u i:=by
  rw [X7 hi];subst hj;simp only [List.getD];rw [List.getElem?_append_right (by omega),Nat.add_sub_cancel_left,List.getElem?_append_left hi,List.getElem?_eq_getElem hi];rfl
 rw [e] at h1;exact h1
theorem Vh.gY {w:World} {u v pre post:List Int} {n j B bv ov:Nat} (h:Vh w u v pre post n j B bv ov) (i:Nat) (hi:i<v.length) :
  w.cell? ⟨bv,ov+i,none⟩=some (.int .u64 (Qb v i)):=by
 obtain ⟨b,o,e,_,hc⟩:=h.hv i hi
 cases e;rw [Zd hi] at hc;exact hc
set_option maxRecDepth 100000 in
set_option maxHeartbeats 4000000 in
theorem Fj (u v pre post:List Int) (n j B capu capv bv ov:Nat) (w:World) (h:Vg u v n) (hj:pre.length=j) (hmax:n≤100000000000)
  (hM:Vh w u v pre post n j B bv ov) (hne:bv≠B) :
  Calls Tryz.prog 287 #[.slice (some ⟨B,j,none⟩) (n+3) capu,.slice (some ⟨bv,ov,none⟩) (n+2) capv] w fun e w' =>
   (e = .returned (.int .u64 (dv W u / dv W v))∧∃ u',YD w' B 248 JY (pre++(u'++post))∧u'.length=n+3∧DG W u'∧dv W u'=dv W u%dv W v)∧GK B w w':=by
 have hlu:=Lib.hid h.lu
 have hlv:=Lib.hid h.lv
 have HJ:=Lib.hid hj
 clear hj
 have hw1:IntKind.i64.wrap ((n:Int)+2 - 1)=(n:Int)+1:=by rw [show(n:Int)+2 - 1=(n:Int)+1 from by omega];exact IntWalk.i64_in _ (by omega)
 have ht1:((n:Int)+1).toNat=n+1:=by omega
 have h01:0≤(n:Int)+1:=by omega
 have h02:(n:Int)+1<(n:Int)+2:=by omega
 have ht2:((n:Int)+2).toNat=n+2:=by omega
 have h03:0≤(n:Int)+2:=by omega
 have h04:(n:Int)+2<(n:Int)+3:=by omega
 have h05:(n:Int)+1<(n:Int)+3:=by omega
 have hu2:=hM.uj HJ.out (n+2) (by have:=hlu.out;omega)
 have hu1:=hM.uj HJ.out (n+1) (by have:=hlu.out;omega)
 have hv1:=hM.gY (n+1) (by have:=hlv.out;omega)
 have du1:=JW h.hu (n+1)
 have du2:=JW h.hu (n+2)
 have dv1:=JW h.hv (n+1)
 go_enter Tryz.func287,Tryz.ntmps287
 go_wp2_with fail
 go_quiet (fail)
 go_upto_if 30 with (fail)
 go_cut [6,7,8] (fun q r o wx=>∃ qq rr oo,q = .int .u64 qq∧r = .int .u64 rr∧o = .int .u64 oo∧Zx u v n qq rr oo∧Ext w wx)
 case first =>
  by_cases hge:Qb v (n+1)≤Qb u (n+2)
  ·have HG:=Lib.hid (VQ.IM h hge)
   have ha:=fun w=>YW (Qb u (n+1)) (Qb v (n+1)) 0 du1.1 dv1.1 (by decide) (by decide) w
   go_wp2
   go_quiet (fail)
   go_wp2
   go_meet
   exact⟨_,_,_,rfl,rfl,rfl,HG.out,(((Ext.refl w).drewN _).drewN _)⟩
  ·have HG:=Lib.hid (VQ.IN h (by omega))
   have hdy:Qb v (n+1)<W:=dv1.2
   have hdh:0≤Qb u (n+2)∧Qb u (n+2)<Qb v (n+1):=⟨du2.1,by omega⟩
   go_wp2
   go_region_held3 (fun w'=>w'.cell? ⟨B,j+(n+2),none⟩=some (.int .u64 (Qb u (n+2)))∧w'.cell? ⟨B,j+(n+1),none⟩=some (.int .u64 (Qb u (n+1)))∧w'.cell? ⟨bv,ov+(n+1),none⟩=some (.int .u64 (Qb v (n+1))))
    (first | go_keep | exact⟨hx.cell hu2,hx.cell hu1,hx.cell hv1⟩)
    (first | (go_at_call 284;refine(P5 _ _ _ _ hdh du1 hdy).mono ?_;rintro e w' ⟨rfl,hx⟩))
   go_wp2
   go_meet
   exact⟨_,_,_,rfl,rfl,rfl,HG.out,((Ext.refl w).drewN _).trans hx⟩
 case rest =>
  obtain ⟨q1,r1,o1,rfl,rfl,rfl,hG,hE⟩:=hcut
  have HM0:=Lib.hid hM
  clear hu2 hu1 hv1 du1 du2 hM
  go_upto_block 0 with (fail)
  go_cut [6] (fun q wx=>∃ qq,q = .int .u64 qq∧(0≤qq∧qq<W)∧((qq - 1)*dv W v≤dv W u∧dv W u<(qq+1)*dv W v)∧Ext w wx)
  case first =>
   have hw2:IntKind.i64.wrap ((n:Int)+2 - 2)=(n:Int):=by rw [show(n:Int)+2 - 2=(n:Int) from by omega];exact IntWalk.i64_in _ (by omega)
   have hn0:(0:Int)≤(n:Int):=by omega
   go_wp2_with fail
   go_loopw [6,7,8] (fun q r o wr=>∃ qq rr oo,q = .int .u64 qq∧r = .int .u64 rr∧o = .int .u64 oo∧Zx u v n qq rr oo∧Ext w wr) (fun _ r o _=>(2*W - (intOf r+W*intOf o)).toNat)
   case atStart=>exact⟨_,_,_,rfl,rfl,rfl,hG,hE⟩
   case round =>
    clear hG hE
    obtain ⟨qq,rr,oo,rfl,rfl,rfl,hG,hE⟩:=hrel
    obtain ⟨g1,g2,g3,g4,g5⟩:=id hG
    have HG:=Lib.hid hG
    clear hG g4 g5
    by_cases ho:oo=0
    ·subst ho
     have hM:=HM0.out.ext hE
     have hv0:=hM.gY n (by have:=hlv.out;omega)
     have hv1:=hM.gY (n+1) (by have:=hlv.out;omega)
     have hu0:=hM.uj HJ.out n (by have:=hlu.out;omega)
     have dv0:=JW h.hv n
     have du0:=JW h.hu n
     have e1:Jv qq (Qb v n)+W*Xm qq (Qb v n)=qq*Qb v n:=by unfold Jv Xm;rw [Int.add_comm];exact Int.mul_ediv_add_emod _ _
     have l0:0≤Jv qq (Qb v n)∧Jv qq (Qb v n)<W:=⟨Int.emod_nonneg _ (by decide),Int.emod_lt_of_pos _ Jj⟩
     have HY:Hid (qq*Qb v n≤rr*W+Qb u n→(qq - 1)*dv W v≤dv W u∧dv W u<(qq+1)*dv W v):=fun hy=>HG.out.fin h (fun _=>hy)
     have HN:Hid (rr*W+Qb u n<qq*Qb v n→Zx u v n (qq - 1) (XC rr (Qb v (n+1)) 0) (Xd rr (Qb v (n+1)) 0)):=fun hy=>HG.out.less h hy
     have hq1:Hid (rr*W+Qb u n<qq*Qb v n→1≤qq):=fun hy=>by
      have:=(HN.out hy).1;omega
     have hnz:=h.nz
     have hq2:qq≤18446744073709551615:=by have:=g1.2;simp only [WV] at this;omega
     have hme:Hid (2*W - (XC rr (Qb v (n+1)) 0+W*Xd rr (Qb v (n+1)) 0)<2*W - (rr+W*0)):=by
      have:=(WU g2 dv1 (by decide:(0:Int)≤0∧(0:Int)≤1)).1;show _<_;omega
     have hme2:Hid (0<2*W - (rr+W*0)):=by show _<_;omega
     have ha:=fun w=>YW rr (Qb v (n+1)) 0 g2.1 dv1.1 (by decide) (by decide) w
     generalize hmy:Xm qq (Qb v n)=mh at *
     generalize hml:Jv qq (Qb v n)=ml at *
     have HMH:=Lib.hid hmy
     have HML:=Lib.hid hml
     have E1:Hid (qq*Qb v n=ml+W*mh):=e1.symm
     clear hmy hml e1
     have cmpY:Hid (mh<rr→qq*Qb v n≤rr*W+Qb u n):=fun hh=>by
      have:W*(mh+1)≤W*rr:=Int.mul_le_mul_of_nonneg_left (by omega) (by decide)
      rw [E1.out];grind
     have cmpY2:Hid (mh=rr→ml≤Qb u n→qq*Qb v n≤rr*W+Qb u n):=fun hh hl=>by
      rw [E1.out,hh];grind
     have cmpN:Hid (rr<mh→rr*W+Qb u n<qq*Qb v n):=fun hh=>by
      have:W*(rr+1)≤W*mh:=Int.mul_le_mul_of_nonneg_left (by omega) (by decide)
      rw [E1.out];grind
     have cmpN2:Hid (mh=rr→Qb u n<ml→rr*W+Qb u n<qq*Qb v n):=fun hh hl=>by
      rw [E1.out,hh];grind
     rcases Int.lt_trichotomy mh rr with g | g | g
     ·have HF:=Lib.hid (HY.out (cmpY.out g))
      go_wp2_with (go_at_call 244;refine(YZ _ _ _ g1 dv0).mono ?_;rw [HMH.out,HML.out];rintro e w' ⟨rfl,rfl⟩)
      go_meet
      exact⟨_,rfl,HG.out.1,HF.out,hE⟩
     ·have gb:(mh==rr)=true:=by simpa using g
      have gl:rr≤mh:=by omega
      have G:=Lib.hid g
      clear g
      by_cases hl:ml≤Qb u n
      ·have HF:=Lib.hid (HY.out (cmpY2.out G.out hl))
       go_wp2_with (go_at_call 244;refine(YZ _ _ _ g1 dv0).mono ?_;rw [HMH.out,HML.out];rintro e w' ⟨rfl,rfl⟩)
       go_meet
       exact⟨_,rfl,HG.out.1,HF.out,hE⟩
      ·have hl':Qb u n<ml:=by omega
       have HF:=Lib.hid (HN.out (cmpN2.out G.out hl'))
       have hq1:=hq1.out (cmpN2.out G.out hl')
       clear hl
       go_wp2_with (go_at_call 244;refine(YZ _ _ _ g1 dv0).mono ?_;rw [HMH.out,HML.out];rintro e w' ⟨rfl,rfl⟩)
       go_roundw
       case rel=>exact⟨_,_,_,rfl,rfl,rfl,HF.out,hE⟩
       case measure=>have:=hme.out;have:=hme2.out;simp only [intOf];omega
     ·have HF:=Lib.hid (HN.out (cmpN.out g))
      have hq1:=hq1.out (cmpN.out g)
      have gb:(mh==rr)=false:=by simp;omega
      go_wp2_with (go_at_call 244;refine(YZ _ _ _ g1 dv0).mono ?_;rw [HMH.out,HML.out];rintro e w' ⟨rfl,rfl⟩)
      go_roundw
      case rel=>exact⟨_,_,_,rfl,rfl,rfl,HF.out,hE⟩
      case measure=>have:=hme.out;have:=hme2.out;simp only [intOf];omega
    ·have ho1:(oo==0)=false:=by simpa using ho
     have HF:=Lib.hid (HG.out.fin h (fun e=>absurd e ho))
     go_wp2
     go_meet
     exact⟨_,rfl,HG.out.1,HF.out,hE⟩
  case rest =>
   clear hG hE
   obtain ⟨qq,rfl,hq,hF,hE⟩:=hcut
   have HF:=Lib.hid hF
   have HB0:=Lib.hid (HM0.out.ext hE).hB
   have HU0:Hid (GK B w _):=(GK.refl B w).ext hE
   clear hF hE dv1 h05 h02 h04
   go_wp2
   go_loopw [105,11,12] (fun i b c wr=>∃ (k:Nat) (ds:List Int) (bb cc:Int),k≤n+2∧i = .int .i64 k∧b = .int .u64 bb∧c = .int .u64 cc∧B1 u v qq k ds bb cc∧YD wr B 248 JY (pre++((ds++u.drop k)++post))∧GK B w wr)
    (fun i _ _ _=>n+2 - (intOf i).toNat)
   case atStart=>exact⟨0,[],0,0,by omega,rfl,rfl,rfl,B1.start u v qq,HB0.out,HU0.out⟩
   case round =>
    clear HB0 HU0
    obtain ⟨k,ds,bb,cc,hk,rfl,rfl,rfl,hI,hB,hU⟩:=hrel
    by_cases hlt:k<n+2
    ·have hst:=hI.step h.hu h.hv hq
     obtain ⟨hd1,hd2,hd3,hd4,hd5⟩:=hI
     have HD1:=Lib.hid hd1
     have hvk:=hU.cell (p:=⟨bv,ov+k,none⟩) hne (HM0.out.gY k (by have:=hlv.out;omega))
     rw [J8 (by have:=hlu.out;omega)] at hB
     have hcell:=hB.cell (AD HJ.out HD1.out)
     rw [AE HJ.out HD1.out] at hcell
     simp only [JY] at hcell
     have hfr:=hB.frozen (j+k)
     have hBs:=hB.set (j+k) (ZF (Qb u k) (XC (Jv qq (Qb v k)) cc 0) bb)
     rw [Ey HJ.out HD1.out,List.append_cons ds] at hBs
     have HBs:=Lib.hid hBs
     have HS:=Lib.hid hst
     have hy:=JW h.hv k
     have hx:=JW h.hu k
     obtain ⟨_,g2,g3,g4,g5,_,_⟩:=Ex hq hy hd4 (by decide:(0:Int)≤0∧(0:Int)<W)
     clear hd1 hd5 hB hBs hst
     generalize hmy:Xm qq (Qb v k)=mh at *
     generalize hml:Jv qq (Qb v k)=ml at *
     have HMH:=Lib.hid hmy
     have HML:=Lib.hid hml
     clear hmy hml
     have ha1:=fun w=>YW ml cc 0 g2.1 hd4.1 (by decide) (by decide) w
     have ha2:=fun w=>GV (Qb u k) (XC ml cc 0) bb hx g3 hd3 w
     have b1:0≤mh+Xd ml cc 0:=g4.1
     have b2:mh+Xd ml cc 0≤18446744073709551615:=by have:=g4.2;simp only [WV] at this;omega
     go_wp2_with (go_at_call 244;refine(YZ _ _ _ hq hy).mono ?_;rw [HMH.out,HML.out];rintro e w' ⟨rfl,rfl⟩)
     go_roundw
     case rel=>exact⟨k+1,_,_,_,by omega,by go_num,rfl,rfl,HS.out,HBs.out,hU.setCell _ _⟩
     case measure=>simp [intOf];omega
    ·have hk':k=n+2:=by omega
     subst hk'
     have HI:=Lib.hid hI
     obtain ⟨hd1,hd2,hd3,hd4,hd5⟩:=hI
     have HD1:=Lib.hid hd1
     rw [J8 (by have:=hlu.out;omega)] at hB
     have hcell:=hB.cell (AD HJ.out HD1.out)
     rw [AE HJ.out HD1.out] at hcell
     simp only [JY] at hcell
     have hfr:=hB.frozen (j+(n+2))
     have hBs:=hB.set (j+(n+2)) (ZF (Qb u (n+2)) cc bb)
     rw [Ey HJ.out HD1.out,List.drop_eq_nil_of_le (by have:=hlu.out;omega)] at hBs
     have HBs:=Lib.hid hBs
     have hx:=JW h.hu (n+2)
     have hs:=(BJ hx hd4 hd3).2
     have ha2:=fun w=>GV (Qb u (n+2)) cc bb hx hd4 hd3 w
     clear hd1 hd5 hB hBs
     have hs3:=hs.2
     have hs2:=hs.1
     clear hs
     by_cases hb0:Kl (Qb u (n+2)) cc bb=0
     ·have hR:=OZ h HI.out HF.out hb0
      have HR:=Lib.hid hR
      have hbb:(Kl (Qb u (n+2)) cc bb==0)=true:=by simpa using hb0
      clear hR hb0
      go_wp2
      go_ret
      exact⟨⟨congrArg (fun x=>Ending.returned (.int .u64 x)) HR.out.2.1,_,HBs.out,by simp [HD1.out],HR.out.1,HR.out.2.2⟩,hU.setCell _ _⟩
     ·have hb1:Kl (Qb u (n+2)) cc bb=1:=by omega
      have hbb:(Kl (Qb u (n+2)) cc bb==0)=false:=by simpa using hb0
      have HB1:=Lib.hid hb1
      clear hb0 hb1
      have HU1:Hid (GK B w _):=hU.setCell (j+(n+2)) (JY (ZF (Qb u (n+2)) cc bb))
      have hdL:DG W (ds++[ZF (Qb u (n+2)) cc bb]):=hd2.append (DG.cons hs2.1 hs2.2 (DG.nil _))
      go_wp2
      go_loopw [157,17] (fun i c wr=>∃ (k:Nat) (es:List Int) (c2:Int),k≤n+2∧i = .int .i64 k∧c = .int .u64 c2∧Dm ds v k es c2∧YD wr B 248 JY (pre++((es++(ds++[ZF (Qb u (n+2)) cc bb]).drop k)++post))∧GK B w wr)
       (fun i _ _=>n+2 - (intOf i).toNat)
      case atStart=>exact⟨0,[],0,by omega,rfl,rfl,⟨rfl,DG.nil _,by decide,by simp⟩,HBs.out,HU1.out⟩
      case round =>
       clear HU1 HBs hcell hfr hU ha2
       obtain ⟨k,es,c2,hk,rfl,rfl,hA,hB,hU⟩:=hrel
       have HA:=Lib.hid hA
       obtain ⟨he1,he2,he3,he4⟩:=hA
       have HE1:=Lib.hid he1
       clear he1 he4
       have hll:(ds++[ZF (Qb u (n+2)) cc bb]).length=n+3:=by simp [HD1.out]
       rw [J8 (by omega)] at hB
       have HLL:=Lib.hid hll
       clear hll
       have hcell:=hB.cell (AD HJ.out HE1.out)
       rw [AE HJ.out HE1.out] at hcell
       simp only [JY] at hcell
       have hfr:=hB.frozen (j+k)
       by_cases hlt:k<n+2
       ·have hvk:=hU.cell (p:=⟨bv,ov+k,none⟩) hne (HM0.out.gY k (by have:=hlv.out;omega))
        have hek:Hid (Qb (ds++[ZF (Qb u (n+2)) cc bb]) k=Qb ds k):=by
         have h1:k<ds.length:=by have:=HD1.out;omega
         show _=_
         rw [X7 (by have:=HLL.out;omega),X7 h1,List.getElem_append_left h1]
        rw [hek.out] at hcell hB
        have hBs:=hB.set (j+k) (XC (Qb ds k) (Qb v k) c2)
        rw [Ey HJ.out HE1.out,List.append_cons es] at hBs
        have HBs:=Lib.hid hBs
        have HS:=Lib.hid (HA.out.step hd2 h.hv)
        have hx:=JW hd2 k
        have hy:=JW h.hv k
        have ha1:=fun w=>YW (Qb ds k) (Qb v k) c2 hx.1 hy.1 he3.1 he3.2 w
        have hk0:(0:Int)≤(k:Int):=by omega
        have hk1:(k:Int)<(n:Int)+2:=by omega
        have hk2:(k:Int)<(n:Int)+3:=by omega
        clear hBs hB
        go_wp2
        go_region
        go_wp2
        go_roundw
        case rel=>exact⟨k+1,_,_,by omega,by go_num,rfl,HS.out,HBs.out.drew,(hU.setCell _ _).drew⟩
        case measure=>simp [intOf];omega
       ·have hk':k=n+2:=by omega
        subst hk'
        have hR:=qV h HI.out HF.out HB1.out HA.out
        have HR:=Lib.hid hR
        clear hR
        have hek:Hid (Qb (ds++[ZF (Qb u (n+2)) cc bb]) (n+2)=ZF (Qb u (n+2)) cc bb):=by
         show _=_
         rw [X7 (by have:=HLL.out;omega)];simp [HD1.out]
        rw [hek.out,List.drop_eq_nil_of_le (by have:=HLL.out;omega)] at hB
        rw [hek.out] at hcell
        have hBs:=hB.set (j+(n+2)) 0
        rw [Ey HJ.out HE1.out] at hBs
        have HBs:=Lib.hid hBs
        have hq1:1≤qq:=by
         have h0:=Qu Jj h.hu
         have h1:=Qu Jj h.hv
         have:=Int.ediv_nonneg h0 h1
         rw [← HR.out.1] at this;omega
        have hq2:qq≤18446744073709551615:=by have:=hq.2;simp only [WV] at this;omega
        have hwr:IntKind.u64.wrap (ZF (Qb u (n+2)) cc bb+c2)=0:=by
         rw [HR.out.2.2];decide
        clear hB hBs
        go_wp2
        go_ret
        exact⟨⟨congrArg (fun x=>Ending.returned (.int .u64 x)) HR.out.1,_,HBs.out,by simp [HE1.out],he2.append (DG.cons (Int.le_refl _) Jj (DG.nil _)),by rw [XS,HR.out.2.1];simp⟩,hU.setCell _ _⟩
end
section
open Go.RowKit Ig
theorem Cells.Hj {w:World} {q:Option Addr} {l:List Int} {b o:Nat} {v:Value} (h:Cells w q JY l) (hb:∀ a,q=some a→a.block≠b):Cells (w.setCell ⟨b,o,none⟩ v) q JY l:=by
 intro i hi;obtain ⟨b',off,h1,h2,h3⟩:=h i hi
 exact⟨b',off,h1,h2.set _ _ _,Xc (hb _ h1) h3⟩
theorem Cells.old {w:World} {q:Option Addr} {l:List Int} (h:Cells w q JY l) (hl:l≠[]) (b:Nat) (hb:w.heap.size≤b):∀ a,q=some a→a.block≠b:=by
 intro a ha
 obtain ⟨b',off,h1,h2,_⟩:=h 0 (List.length_pos_iff.2 hl)
 rw [h1] at ha;cases ha;show b'≠b;have:=h2.lt;omega
theorem YD.Hj {α:Type} {w:World} {b E b' o:Nat} {enc:Gz α} {l:List α} {v:Value} (h:YD w b E enc l) (hb:b≠b'):YD (w.setCell ⟨b',o,none⟩ v) b E enc l:=by
 unfold YD;rw [Below.heap_setCell _ _ _ _ hb];exact h
theorem AA {lb:List Int} {n s:Nat} (hb:DG W lb) (hl:lb.length=n+2) (hs:s<64) (h1:Qb lb (n+1)*p2 s<W) (h2:9223372036854775808≤Qb lb (n+1)*p2 s) :
  W^(n+1)*9223372036854775808≤dv W lb*p2 s∧dv W lb*p2 s<W^(n+2):=by
 have e:=J6 lb (n+1)
 rw [List.take_of_length_le (by omega:lb.length≤n+1+1)] at e
 have t0:=Qu Jj (hb.take (n+1))
 have t1:=Z1 Jj (hb.take (n+1))
 rw [List.length_take,Nat.min_eq_left (by omega)] at t1
 have hp:=pow_pos Jj (n+1)
 have hp0:=Zp s
 have top:(Qb lb (n+1)+1)*p2 s≤W:=by
  have e3:=WI hs
  have:Qb lb (n+1)<p2 (64 - s):=by
   refine Int.not_le.1 fun hc=>?_
   have:=Int.mul_le_mul_of_nonneg_right hc (Int.le_of_lt hp0)
   omega
  have:=Int.mul_le_mul_of_nonneg_right (show Qb lb (n+1)+1≤p2 (64 - s) by omega) (Int.le_of_lt hp0)
  omega
 constructor
 ·have k1:W^(n+1)*9223372036854775808≤W^(n+1)*(Qb lb (n+1)*p2 s):=Int.mul_le_mul_of_nonneg_left h2 (Int.le_of_lt hp)
  have k2:0≤dv W (lb.take (n+1))*p2 s:=Int.mul_nonneg t0 (Int.le_of_lt hp0)
  have e2:dv W lb*p2 s=dv W (lb.take (n+1))*p2 s+W^(n+1)*(Qb lb (n+1)*p2 s):=by rw [e];grind
  omega
 ·have k1:(dv W (lb.take (n+1))+1)*p2 s≤W^(n+1)*p2 s:=Int.mul_le_mul_of_nonneg_right (by omega) (Int.le_of_lt hp0)
  have k2:W^(n+1)*((Qb lb (n+1)+1)*p2 s)≤W^(n+1)*W:=Int.mul_le_mul_of_nonneg_left top (Int.le_of_lt hp)
  have e2:dv W lb*p2 s=dv W (lb.take (n+1))*p2 s+W^(n+1)*(Qb lb (n+1)*p2 s):=by rw [e];grind
  rw [Int.pow_succ W (n+1)]
  have e3:W^(n+1)*((Qb lb (n+1)+1)*p2 s)=W^(n+1)*(Qb lb (n+1)*p2 s)+W^(n+1)*p2 s:=by grind
  rw [Int.add_mul] at k1
  omega
set_option maxRecDepth 100000 in
set_option maxHeartbeats 2000000 in
theorem T1 (v v':Value) (la lb:List Int) (n:Nat) (w:World) (ha:DG W la) (hb:DG W lb) (na:NZ la) (nb:NZ lb) (hs:SL w v JY la) (hs':SL w v' JY lb) (hge:dv W lb≤dv W la)
  (hn:lb.length=n+2) (h1:la.length≤10000000000) (h2:lb.length≤10000000000) :
  Calls Tryz.prog 247 #[v,v'] w fun e w'=>ZG w (SU (dv W la) (dv W lb)) e w':=by
 have H3:0≤ZU (dv W la) (dv W lb):=GH hge
 have hm:n+2≤la.length:=by
  refine Nat.not_lt.1 fun hc=>?_
  have:=XZ Ej ha hb nb (by omega);omega
 have HS:=Lib.hid hs
 obtain ⟨q,cap,rfl,hcap,hmax,hca⟩:=hs
 have HA:=Lib.hid hca
 have HS':=Lib.hid hs'
 obtain ⟨q2,cap2,rfl,hcap2,hmax2,hcb⟩:=hs'
 have HB:=Lib.hid hcb
 obtain ⟨bb,ob,rfl,hbb,hcy⟩:=hcb (n+1) (by omega)
 rw [Zd (by omega)] at hcy
 simp only [JY] at hcy
 clear hca hcb
 have hL:=Lib.hid hn
 rw [hn] at HS' hcap2 ⊢
 have hyp:0<Qb lb (n+1)∧Qb lb (n+1)<W:=by
  have:=JW hb (n+1)
  have hz:Qb lb (n+1)≠0:=by
   intro e;apply nb;rw [List.getLast?_eq_getElem?,hn]
   rw [X7 (by omega)] at e;simp [hn,e]
  omega
 clear hn
 have hb1:((n:Int)+2==1)=false:=by simp;omega
 have e57:(n:Int)+2 - 1=(n:Int)+1:=by omega
 go_enter Tryz.func247,Tryz.ntmps247
 go_wp2_with (first | (go_at_call 255;refine(ZN _ _ _ _ _ ha hb na nb HS.out HS'.out).mono ?_;rintro e w1 ⟨rfl,hx1⟩;have hcy:=hx1.cell hcy) | (go_at_call 285;fail))
 go_wp2_with fail
 refine(Og _ _ hyp).mono ?_
 rintro e w' ⟨⟨s,rfl,hs,hs1,hs2⟩,rfl⟩
 have hbv:=AA hb hL.out hs hs1 hs2
 have HBV:=Lib.hid hbv
 clear hs1 hs2 hcy hbv
 go_wp2_with fail
 refine(Dx s _ lb _ hs hb (HS'.out.ext hx1) (by omega)).mono ?_
 rintro e w2 ⟨_,rfl,⟨l1,rfl,hB1,hl1,hd1,hv1⟩,hx2⟩
 rw [hL.out] at hl1
 have hSL1:=SL.W8 hB1 (n+3) (by omega) (by omega)
 rw [List.take_of_length_le (by omega),hl1] at hSL1
 have HSL1:=Lib.hid hSL1
 rw [hL.out]
 clear hSL1 hB1 hl1
 go_wp2_with fail
 refine(KD _ _ _ HSL1.out).mono ?_
 rintro e w' ⟨⟨_,rfl,qv,capv,rfl,hcv1,hcv2,hcv⟩,rfl⟩
 have hlv:(Q2 l1).length=n+2:=AI hd1.Q2 (Xh _) (by rw [XB,hv1];have:=HBV.out.1;have:=Int.mul_le_mul_of_nonneg_left (show(1:Int)≤9223372036854775808 by decide) (Int.le_of_lt (pow_pos Jj (n+1)));omega) (by rw [XB,hv1];exact HBV.out.2)
 have hdv:DG W (Q2 l1):=hd1.Q2
 have hnv:NZ (Q2 l1):=Xh _
 have HVV:Hid (dv W (Q2 l1)=dv W lb*p2 s):=by show _=_;rw [XB,hv1]
 generalize Q2 l1=lv at *
 rw [hlv] at hcv1 ⊢
 have HLV:=Lib.hid hlv
 have HCV:=Lib.hid hcv
 clear hv1 hd1 hcv hlv
 go_wp2_with fail
 refine(Dx s _ la _ hs ha ((HS.out.ext hx1).ext hx2) (by omega)).mono ?_
 rintro e w3 ⟨_,rfl,⟨o0,rfl,hB3,hl3,hd3,hv3⟩,hx3⟩
 have hmk:=fun w=>Z2 (la.length - (n+2)+1) (by omega) w
 have ec:((la.length - (n+2)+1:Nat):Int)=(la.length:Int) - ((n:Int)+2)+1:=by omega
 simp only [ec] at hmk
 clear ec
 have hvne:lv≠[]:=by intro e;have:=HLV.out;rw [e] at this;simp at this
 have hne1:=HCV.out.old hvne w2.heap.size (Nat.le_refl _)
 have hne2:=HCV.out.old hvne w3.heap.size hx3.size
 have HSTART:Hid (VU (dv W la*p2 s) (dv W lb*p2 s) n (la.length - (n+2)+1) la.length o0 []) :=
  VU.start hl3 hd3 hv3 hs (Z1 Jj ha) HBV.out.1 hm
 have HB3:=Lib.hid hB3
 have HX2:Hid (Ext w w2):=hx1.trans hx2
 have HXB:=Lib.hid hx3
 have hsz:w2.heap.size<w3.heap.size:=hB3.lt
 have HN1:=Lib.hid hne1
 have HN2:=Lib.hid hne2
 clear hB3 hl3 hd3 hv3 hx1 hx2 hx3 hge H3 hne1 hne2
 go_wp2
 go_loopw [14] (fun i wr=>∃ (k:Nat) (o qs:List Int),k≤la.length - (n+2)+1∧i = .int .i64 ((k:Int) - 1)∧VU (dv W la*p2 s) (dv W lb*p2 s) n k la.length o qs ∧
   YD wr w2.heap.size 248 JY o∧YD wr w3.heap.size 248 JY (List.replicate k 0++qs)∧Cells wr qv JY lv∧Ext w2 wr)
  (fun i _=>(intOf i+1).toNat)
 case atStart=>exact⟨la.length - (n+2)+1,o0,[],Nat.le_refl _,by go_num,HSTART.out,HB3.out.ext ((Ext.refl _).alloc _),by rw [List.append_nil];exact YD.made w3 _ JY 0 _ _ rfl,(HCV.out.ext HXB.out).ext ((Ext.refl _).alloc _),HXB.out.alloc _⟩
 case round =>
  clear HSTART hmk HB3 HCV HXB
  obtain ⟨k,o,qs,hk,rfl,hI,hBU,hBQ,hCV,hE⟩:=hrel
  cases k with
  |zero =>
   have HI:=Lib.hid hI
   obtain ⟨i1,i2,i3,i4,i5,i6⟩:=hI
   have HI1:=Lib.hid i1
   have HI3:=Lib.hid i3
   have HBU:=Lib.hid hBU
   have HBQ:Hid (YD _ w3.heap.size 248 JY qs):=hBQ
   clear i1 i3 i5 i6 hBU hBQ hCV
   rw [show((0:Nat):Int) - 1 = -1 from rfl]
   go_wp2
   go_loopw [97] (fun i wx=>∃ (k:Nat) (ds:List Int),k≤n+2∧i = .int .i64 k∧Ki o s k ds∧YD wx w2.heap.size 248 JY (ds++o.drop k)∧YD wx w3.heap.size 248 JY qs∧Ext w2 wx)
    (fun i _=>n+2 - (intOf i).toNat)
   case atStart=>exact⟨0,[],by omega,rfl,Ki.start o s,HBU.out,HBQ.out,hE⟩
   case round =>
    clear HBU HBQ hE
    obtain ⟨k,ds,hk,rfl,hS,hBU,hBQ,hE⟩:=hrel
    have HBQ:=Lib.hid hBQ
    by_cases hlt:k<n+2
    ·have HS:=Lib.hid hS
     obtain ⟨hd1,hd2,hd3⟩:=hS
     have HD1:=Lib.hid hd1
     have hkl:k+1<o.length:=by have:=HI1.out;omega
     rw [J8 (by omega),J8 hkl] at hBU
     have hx:=JW i2 k
     have hx1:=JW i2 (k+1)
     have hcell:=hBU.cell (i:=k) (by simp;omega)
     have hcell1:=hBU.cell (i:=k+1) (by simp;omega)
     have g0:(ds++Qb o k::Qb o (k+1)::List.drop (k+1+1) o).getD k default=Qb o k:=by rw [← HD1.out];simp [List.getD]
     have g1:(ds++Qb o k::Qb o (k+1)::List.drop (k+1+1) o).getD (k+1) default=Qb o (k+1):=by rw [← HD1.out];simp [List.getD]
     rw [g0] at hcell
     rw [g1] at hcell1
     simp only [JY] at hcell hcell1
     have hfr:=hBU.frozen k
     have HBU:=Lib.hid hBU
     clear hd1 hd3 hBU hBQ g0 g1
     have hk0:(0:Int)≤(k:Int):=by omega
     have hk1:(k:Int)<(la.length:Int)+1:=by omega
     have hk2:(k:Int)+1<(la.length:Int)+1:=by omega
     have hk3:(0:Int)≤(k:Int)+1:=by omega
     have hk4:IntKind.i64.wrap ((k:Int)+1)=(k:Int)+1:=IntWalk.i64_in _ (by omega)
     have hk5:((k:Int)+1).toNat=k+1:=by omega
     have hk6:IntKind.i64.wrap (64 - (s:Int))=64 - (s:Int):=IntWalk.i64_in _ (by omega)
     have hk7:(64 - (s:Int)).toNat=64 - s:=by omega
     have hk8:¬ (64 - (s:Int)<0):=by omega
     by_cases hs0:0<s
     ·have hs1:(0:Int)<(s:Int):=by omega
      go_wp2
      go_region
      go_wp2
      go_roundw
      case rel =>
       refine⟨k+1,ds++[Qb o k / p2 s+Qb o (k+1)*p2 (64 - s)%W],by omega,by go_num,HS.out.step i2 hs hs0,?_,(HBQ.out.Hj (by omega)).Hj (by omega),((hE.Xl (by simp) _).Xl (by simp) _).drew⟩
       have b:=Aq hs hx
       obtain ⟨b1,_⟩:=Ro (x:=Qb o (k+1)) (s:=64 - s) (by omega) b.1 b.2
       rw [Md,show Qb o k / 2^s=Qb o k / p2 s from rfl,b1]
       have h1:=HBU.out.set k (Qb o k / p2 s)
       rw [V9 _ _ _ _ _ HD1.out] at h1
       have h2:=h1.set k (Qb o k / p2 s+Qb o (k+1)*p2 (64 - s)%W)
       rw [V9 _ _ _ _ _ HD1.out,List.append_cons ds,← J8 hkl] at h2
       exact h2.drew
      case measure=>simp [intOf];omega
     ·have hs9:s=0:=by omega
      have HS0:Hid (Ki o s (k+1) (ds++[Qb o k / p2 s])):=by subst hs9;exact HS.out.Li i2
      clear hs9
      go_wp2
      go_roundw
      case rel =>
       refine⟨k+1,ds++[Qb o k / p2 s],by omega,by go_num,HS0.out,?_,HBQ.out.Hj (by omega),hE.Xl (by simp) _⟩
       have h1:=HBU.out.set k (Qb o k / p2 s)
       rw [V9 _ _ _ _ _ HD1.out,List.append_cons ds,← J8 hkl] at h1
       exact h1
      case measure=>simp [intOf];omega
    ·have hk':k=n+2:=by omega
     subst hk'
     have hvp:0<dv W lb:=by
      have h7:=HBV.out.1
      have h8:=pow_pos Jj (n+1)
      refine Int.not_le.1 fun hc=>?_
      have:=Int.mul_le_mul_of_nonneg_right hc (Int.le_of_lt (Zp s))
      omega
     have HF:=Lib.hid (jI HI.out hs hvp HBV.out.2 hm hS)
     obtain ⟨hd1,hd2,hd3⟩:=hS
     have hq1:qs.length=la.length - (n+2)+1:=by have:=HI3.out;omega
     have hSq:=SL.W8 HBQ.out (la.length - (n+2)+1) (by omega) (by omega)
     have hSr:=SL.W8 hBU (n+2) (by simp;omega) (by simp;have:=HI1.out;omega)
     rw [List.take_of_length_le (by omega),hq1] at hSq
     rw [List.take_append_of_le_length (by omega),List.take_of_length_le (by omega)] at hSr
     have hol:(ds++List.drop (n+2) o).length=la.length+1:=by simp;have:=HI1.out;omega
     rw [hol] at hSr
     have HSq:=Lib.hid hSq
     have HSr:=Lib.hid hSr
     have hn0:(0:Int)≤(n:Int)+2:=by omega
     have hn1:(n:Int)+2≤(la.length:Int)+1:=by omega
     have hn2:((n:Int)+2).toNat=n+2:=by omega
     clear hd1 hd3 hBU hBQ hSq hSr hq1 hol
     go_wp2
     go_region_held3 (fun _=>True) (trivial) (first | (go_at_call 283;(with_reducible refine(KD _ _ _ (HSq.out.ext (Ext.refl _).drew)).mono ?_);rintro e w' ⟨⟨v1,rfl,hv1⟩,rfl⟩) | (go_at_call 283;(with_reducible refine(KD _ _ _ (HSr.out.ext (Ext.refl _).drew)).mono ?_);rintro e w' ⟨⟨v2,rfl,hv2⟩,rfl⟩))
     go_wp2
     go_ret2
     exact⟨_,rfl,⟨v1,v2,_,_,rfl,hv1,hv2,⟨i4.Q2,Xh _⟩,⟨hd2.Q2,Xh _⟩,by rw [XB];exact HF.out.1,by rw [XB];exact HF.out.2⟩,(HX2.out.trans hE).drew⟩
  |succ k =>
   obtain ⟨pre,u,post,rfl,lj,hst,hpost,lpost,hjm⟩:=hI.xp hdv HLV.out (by
    have:=JW hdv (n+1)
    have hz:Qb lv (n+1)≠0:=by
     intro e;apply hnv;rw [List.getLast?_eq_getElem?,HLV.out]
     rw [X7 (by have:=HLV.out;omega)] at e;simp [HLV.out,e]
    omega) HVV.out hm
   have HI:=Lib.hid hI
   have LJ:=Lib.hid lj
   have HBQ:=Lib.hid hBQ
   have e1:((k+1:Nat):Int) - 1=(k:Int):=by omega
   have hwin:Hid (k+n+2≤la.length):=hjm
   have hk3:(k:Int)+((n:Int)+2)+1≤(la.length:Int)+1:=by omega
   obtain ⟨bq,oq,rfl,_,_⟩:=hCV 0 (by have:=HLV.out;omega)
   have HCV:=Lib.hid hCV
   have HBU:=Lib.hid hBU
   clear hI lj hBQ hjm lpost hCV hBU
   rw [e1]
   clear e1
   go_wp2_with fail
   rw [show k+(n+2)+1 - k=n+3 from by omega]
   refine(Fj u lv pre post n k _ _ _ bq oq _ hst LJ.out (by omega) ⟨HBU.out,HCV.out⟩ (HN1.out _ rfl)).mono ?_
   rintro e w4 ⟨⟨rfl,u',hB',lu',du',vu'⟩,hU⟩
   have hBQ4:=hU.Bw (by omega) HBQ.out
   have hlen:k<(List.replicate (k+1) (0:Int)++qs).length:=by simp;omega
   have hcell:=hBQ4.cell hlen
   have hz:(List.replicate (k+1) (0:Int)++qs).getD k default=0:=by simp [List.getD,List.getElem?_append_left]
   rw [hz] at hcell
   simp only [JY] at hcell
   have hfr:=hBQ4.frozen k
   have hBs:=hBQ4.set k (dv W u / dv W lv)
   rw [S0] at hBs
   have HBs:=Lib.hid hBs
   have hvp:0<dv W lb*p2 s:=by have:=HBV.out.1;have:=pow_pos Jj (n+1);omega
   have HQL:Hid (dv W u / dv W lv<W):=by
    refine Int.ediv_lt_of_lt_mul (by rw [HVV.out];exact hvp) ?_
    exact hst.lt
   have HST:=Lib.hid (HI.out.step LJ.out hst.lu du' lu' HVV.out hvp hpost HQL.out (Qu Jj hst.hu) vu')
   have HB':=Lib.hid hB'
   have HU:=Lib.hid hU
   clear hBs hBQ4 hB' hU hz hlen vu'
   go_wp2
   go_roundw
   case rel=>exact⟨k,_,_,by omega,by go_num,HST.out,HB'.out.Hj (by omega),HBs.out,(HU.out.cells HN1.out HCV.out).Hj HN2.out,(HU.out.xu hE (Nat.le_refl _)).Xl (by simp;omega) _⟩
   case measure=>simp [intOf]
theorem AX (v v':Value) (la lb:List Int) (w:World) (ha:DG W la) (hb:DG W lb) (na:NZ la) (nb:NZ lb) (hs:SL w v JY la) (hs':SL w v' JY lb) (hb0:lb≠[])
  (h1:la.length≤10000000000) (h2:lb.length≤10000000000) :
  Calls Tryz.prog 247 #[v,v'] w fun e w'=>ZG w (SU (dv W la) (dv W lb)) e w':=by
 by_cases hlt:dv W la<dv W lb
 ·exact T2 v v' la lb w ha hb na nb hs hs' hlt
 ·match lb,hb,nb,hs',hb0,hlt,h2 with
  |[y],hb,nb,hs',_,hlt,_ =>
   have e:dv W [y]=y:=by simp
   rw [e] at hlt ⊢
   have hy:=hb.head
   have hy0:y≠0:=by intro e;subst e;exact nb rfl
   obtain ⟨q',cap',e',_⟩:=id hs'
   subst e'
   exact AW v q' cap' la y w ha ⟨by omega,hy.2⟩ na hs hs' (by omega) (by omega)
  |x::y::l,hb,nb,hs',_,hlt,h2=>exact T1 v v' la (x::y::l) l.length w ha hb na nb hs hs' (by omega) rfl h1 h2
end
section
open Go.RowKit Ig
theorem YT.sign {w:World} {s:Int} {q:Option Addr} {n cap:Nat} {z:Int} (h:YT w s q n cap z):s<0↔z<0:=by
 rcases h with ⟨_,_,_,rfl,_⟩ | ⟨b,off,l,_,_,_,_,_,_,_,_,h,hz,hb⟩
 ·exact Iff.rfl
 ·rcases h with rfl | rfl<;>omega
theorem Bx.xK (w:World) (o:Obj) (T:TypeId) (c:Array Value):Bx ((w.alloc o).alloc (.cells c T)) (w.heap.size+1) T c.toList:=by
 have:=Bx.new (w.alloc o) T c;simpa using this
theorem Bx.Oc (w:World) (o o':Obj) (T:TypeId) (c:Array Value):Bx (((w.alloc o).alloc (.cells c T)).alloc o') (w.heap.size+1) T c.toList:=(Bx.xK w o T c).alloc o'
theorem Bx.FA (w:World) (o o':Obj) (T:TypeId) (c:Array Value):Bx (((w.alloc o).alloc o').alloc (.cells c T)) (w.heap.size+1+1) T c.toList:=by
 have:=Bx.new ((w.alloc o).alloc o') T c;simpa using this
theorem Bx.AP (w:World) (o o':Obj) (T:TypeId) (c:Array Value):Bx (((w.alloc (.cells c T)).alloc o).alloc o') w.heap.size T c.toList:=((Bx.new w T c).alloc o).alloc o'
theorem Ext.Gt {a w:World} (h:Ext a w) {R:Nat} (hR:a.heap.size≤R) (v0 v1:Value):Ext a ((w.setCell ⟨R,0,none⟩ v0).setCell ⟨R,1,none⟩ v1):=(h.Xl hR v0).Xl hR v1
theorem jY (v:Value) (z:Int) (w:World) (hv:XQ w v z) :
  Calls Tryz.prog 228 #[v] w fun e w'=>ZG w (fun v w'=>XQ w' v (Je z)) e w':=by
 have HV:=Lib.hid hv
 obtain ⟨s,q,n,cap,rfl,hp⟩:=hv
 have HP:=Lib.hid hp
 by_cases hs:s<0
 ·have HI:=Lib.hid (Bc (hp.sign.1 hs))
  have HB:=Lib.hid (Bx.xK w (.cells #[.int .i64 s,.slice q n cap] 128) 128 IZ)
  clear hp
  go_enter Tryz.func228,Tryz.ntmps228
  go_wp2_with fail
  refine(Rs _ z _ (HV.out.ext (((Ext.refl _).alloc _).alloc _))).mono ?_
  rintro e w1 ⟨_,rfl,⟨s',q',n',cap',rfl,hp'⟩,hx⟩
  obtain ⟨c0,c1,f0,f1⟩:=(HB.out.ext hx).two
  have HB2:=Lib.hid (HB.out.ext hx)
  go_wp2
  refine bodyPost_ret (v:=.agg #[.int .i64 s',.slice q' n' cap']) (by simp [results,Tryz.results228,go_sem,c0,c1]) rfl ⟨_,rfl,?_,?_⟩
  ·rw [HI.out];exact⟨_,_,_,_,rfl,hp'.kp ((Kp.refl _).Gt HB2.out.NL TO _ _)⟩
  ·exact(((((Ext.refl w).alloc _).alloc _).trans hx).Xl (by simp) _).Xl (by simp) _
 ·have HI:=Lib.hid (V3 (z:=z) (by have:=hp.sign;omega))
  clear hp
  go_enter Tryz.func228,Tryz.ntmps228
  go_wp2
  refine bodyPost_ret (v:=.agg #[.int .i64 s,.slice q n cap]) (by simp [results,Tryz.results228,go_sem]) rfl ⟨_,rfl,?_,((Ext.refl _).alloc _).alloc _⟩
  rw [HI.out];exact⟨_,_,_,_,rfl,HP.out.ext (((Ext.refl _).alloc _).alloc _)⟩
def QAN:Nat:=1000000000
theorem Xt {l:List Int} {z:Int} (hd:DG W l) (hn:NZ l) (h:dv W l=Je z) (hz:sz z≤1000000000):l.length≤1000000000:=by
 have:=zY hd hn;rw [h,Er] at this;omega
theorem Sz {a b:Int} (h:decide (a<0)=decide (b<0)):sg (decide (a<0)) (Je a+Je b)=a+b:=by
 unfold sg Je
 by_cases ha:a<0<;>by_cases hb:b<0<;>simp [ha,hb] at h ⊢<;>omega
theorem Sy {a b:Int} (h:decide (a<0)≠decide (b<0)):sg (decide (a<0)) (Je a - Je b)=a+b:=by
 unfold sg Je
 by_cases ha:a<0<;>by_cases hb:b<0<;>simp [ha,hb] at h ⊢<;>omega
theorem RX {a b:Int} (h:decide (a<0)≠decide (b<0)):sg (decide (b<0)) (Je b - Je a)=a+b:=by
 unfold sg Je
 by_cases ha:a<0<;>by_cases hb:b<0<;>simp [ha,hb] at h ⊢<;>omega
theorem Dd (s s':Int) (q q':Option Addr) (n n' cap cap':Nat) (a b:Int) (w:World) (hv:YT w s q n cap a) (hv':YT w s' q' n' cap' b)
  (hc:q.isNone=false∨(q.isNone=true∧q'.isNone=false)∨(q.isNone=true∧q'.isNone=true∧(decide (s<wrap64 (s+s'))==decide (0<s'))=false))
  (ha:sz a≤1000000000) (hb:sz b≤1000000000) :
  Calls Tryz.prog 212 #[.agg #[.int .i64 s,.slice q n cap],.agg #[.int .i64 s',.slice q' n' cap']] w fun e w'=>ZG w (fun v w'=>XQ w' v (a+b)) e w':=by
 have hn:=fun w=>Lib.run_eql_slice_nil (P:=Tryz.prog) w 126 248 q n cap 0 0 Tryz.underlying126
 have hn':=fun w=>Lib.run_eql_slice_nil (P:=Tryz.prog) w 126 248 q' n' cap' 0 0 Tryz.underlying126
 have HV:Hid (XQ w (.agg #[.int .i64 s,.slice q n cap]) a):=⟨_,_,_,_,rfl,hv⟩
 have HV':Hid (XQ w (.agg #[.int .i64 s',.slice q' n' cap']) b):=⟨_,_,_,_,rfl,hv'⟩
 have HBb:=Lib.hid (Bx.Oc w (.cells #[.int .i64 s,.slice q n cap] 128) (.cells IZ 128) 128 #[.int .i64 s',.slice q' n' cap'])
 have HBr:=Lib.hid (Bx.FA w (.cells #[.int .i64 s,.slice q n cap] 128) (.cells #[.int .i64 s',.slice q' n' cap'] 128) 128 IZ)
 clear hv hv'
 rcases hc with h1 | ⟨h1,h2⟩ | ⟨h1,h2,h3⟩
 all_goals
  rw [h1] at hn
  try rw [h2] at hn'
  go_enter Tryz.func212,Tryz.ntmps212
  go_wp2_with fail
  refine(YX _ a _ (HV.out.ext ((((Ext.refl _).alloc _).alloc _).alloc _))).mono ?_
  rintro e w1 ⟨_,rfl,⟨p,la,rfl,hsa,hda,hna,hva⟩,hx⟩
  have HB1:=Lib.hid (HBb.out.ext hx)
  have HR1:=Lib.hid (HBr.out.ext hx)
  obtain ⟨c0,c1,f0,f1⟩:=HB1.out.two
  have hlea:=Xt hda hna hva ha
  have HVA:=Lib.hid hva
  clear hva
  go_wp2_with fail
  refine(YX _ b _ (HV'.out.ext (((((Ext.refl _).alloc _).alloc _).alloc _).trans hx))).mono ?_
  rintro e w2 ⟨_,rfl,⟨p',lb,rfl,hsb,hdb,hnb,hvb⟩,hx2⟩
  have HR2:=Lib.hid (HR1.out.ext hx2)
  have hleb:=Xt hdb hnb hvb hb
  have HVB:=Lib.hid hvb
  clear hvb c0 c1 f0 f1
  have hsa2:=hsa.ext hx2
  by_cases hsg:decide (a<0)=decide (b<0)
  ·have hgg:(decide (a<0)==decide (b<0))=true:=by simpa using hsg
   have HSG:Hid (sg (decide (a<0)) (dv W la+dv W lb)=a+b):=by
    show sg _ _=_
    rw [HVA.out,HVB.out];exact Sz hsg
   clear hsg
   go_wp2_with fail
   refine(SM _ _ la lb _ hda hdb hsa2 hsb (by omega) (by omega)).mono ?_
   rintro e w3 ⟨_,rfl,⟨l3,hs3,hd3,hn3,hv3⟩,hx3⟩
   have HV3:=Lib.hid hv3
   clear hv3
   go_wp2_with fail
   refine(VM _ _ l3 _ hs3 hd3 hn3).mono ?_
   rw [HV3.out,HSG.out]
   rintro e w4 ⟨_,rfl,⟨s4,q4,n4,cap4,rfl,hp4⟩,hx4⟩
   have HR4:=Lib.hid ((HR2.out.ext hx3).ext hx4)
   obtain ⟨c0,c1,f0,f1⟩:=HR4.out.two
   go_wp2
   refine bodyPost_ret (v:=.agg #[.int .i64 s4,.slice q4 n4 cap4]) (by simp [results,Tryz.results212,go_sem,c0,c1]) rfl ⟨_,rfl,⟨_,_,_,_,rfl,hp4.kp ((Kp.refl _).Gt HR4.out.NL TO _ _)⟩,?_⟩
   exact(((((((Ext.refl w).alloc _).alloc _).alloc _).trans hx).trans hx2).trans hx3 |>.trans hx4).Gt (by omega) _ _
  ·have hgg:(decide (a<0)==decide (b<0))=false:=by simpa using hsg
   have hcl:=GH (x:=dv W la) (y:=dv W lb)
   have hcg:=Vf (x:=dv W la) (y:=dv W lb)
   by_cases hge:dv W lb≤dv W la
   ·have HSG:Hid (sg (decide (a<0)) (dv W la - dv W lb)=a+b):=by
     show sg _ _=_
     rw [HVA.out,HVB.out];exact Sy hsg
    have hc3:=hcl hge
    have hll:lb.length≤la.length:=by
     refine Nat.not_lt.1 fun hlt=>?_
     have:=XZ Ej hda hdb hnb hlt;omega
    have HGE:=Lib.hid hge
    clear hsg hcl hcg hge
    go_wp2_with fail
    refine(ZN _ _ la lb _ hda hdb hna hnb hsa2 hsb).mono ?_
    rintro e w3 ⟨rfl,hx3⟩
    have hsa3:=hsa2.ext hx3
    have hsb3:=hsb.ext hx3
    go_wp2_with fail
    refine(BK _ _ la lb _ hda hdb hsa3 hsb3 (by omega) hll HGE.out).mono ?_
    rintro e w4 ⟨_,rfl,⟨l3,hs3,hd3,hn3,hv3⟩,hx4⟩
    have HV3:=Lib.hid hv3
    clear hv3
    go_wp2_with fail
    refine(VM _ _ l3 _ hs3 hd3 hn3).mono ?_
    rw [HV3.out,HSG.out]
    rintro e w5 ⟨_,rfl,⟨s4,q4,n4,cap4,rfl,hp4⟩,hx5⟩
    have HR4:=Lib.hid (((HR2.out.ext hx3).ext hx4).ext hx5)
    obtain ⟨c0,c1,f0,f1⟩:=HR4.out.two
    go_wp2
    refine bodyPost_ret (v:=.agg #[.int .i64 s4,.slice q4 n4 cap4]) (by simp [results,Tryz.results212,go_sem,c0,c1]) rfl ⟨_,rfl,⟨_,_,_,_,rfl,hp4.kp ((Kp.refl _).Gt HR4.out.NL TO _ _)⟩,?_⟩
    exact(((((((Ext.refl w).alloc _).alloc _).alloc _).trans hx).trans hx2).trans hx3 |>.trans hx4 |>.trans hx5).Gt (by omega) _ _
   ·have HSG:Hid (sg (decide (b<0)) (dv W lb - dv W la)=a+b):=by
     show sg _ _=_
     rw [HVA.out,HVB.out];exact RX hsg
    have HC3:=Lib.hid (hcg (by omega))
    have hll:la.length≤lb.length:=by
     refine Nat.not_lt.1 fun hlt=>?_
     have:=XZ Ej hdb hda hna hlt;omega
    have HGE:Hid (dv W la≤dv W lb):=by show _≤_;omega
    clear hsg hcl hcg hge
    go_wp2_with fail
    refine(ZN _ _ la lb _ hda hdb hna hnb hsa2 hsb).mono ?_
    rw [HC3.out]
    rintro e w3 ⟨rfl,hx3⟩
    have hsa3:=hsa2.ext hx3
    have hsb3:=hsb.ext hx3
    go_wp2_with fail
    refine(BK _ _ lb la _ hdb hda hsb3 hsa3 (by omega) hll HGE.out).mono ?_
    rintro e w4 ⟨_,rfl,⟨l3,hs3,hd3,hn3,hv3⟩,hx4⟩
    have HV3:=Lib.hid hv3
    clear hv3
    go_wp2_with fail
    refine(VM _ _ l3 _ hs3 hd3 hn3).mono ?_
    rw [HV3.out,HSG.out]
    rintro e w5 ⟨_,rfl,⟨s4,q4,n4,cap4,rfl,hp4⟩,hx5⟩
    have HR4:=Lib.hid (((HR2.out.ext hx3).ext hx4).ext hx5)
    obtain ⟨c0,c1,f0,f1⟩:=HR4.out.two
    go_wp2
    refine bodyPost_ret (v:=.agg #[.int .i64 s4,.slice q4 n4 cap4]) (by simp [results,Tryz.results212,go_sem,c0,c1]) rfl ⟨_,rfl,⟨_,_,_,_,rfl,hp4.kp ((Kp.refl _).Gt HR4.out.NL TO _ _)⟩,?_⟩
    exact(((((((Ext.refl w).alloc _).alloc _).alloc _).trans hx).trans hx2).trans hx3 |>.trans hx4 |>.trans hx5).Gt (by omega) _ _
set_option maxRecDepth 100000 in
set_option maxHeartbeats 800000 in
theorem It (s s':Int) (w:World) (h0 : -9223372036854775808≤s) (h1:s≤9223372036854775807) (h0' : -9223372036854775808≤s') (h1':s'≤9223372036854775807)
  (hl : -9223372036854775808≤s+s') (hh:s+s'≤9223372036854775807) :
  Calls Tryz.prog 212 #[.agg #[.int .i64 s,.slice none 0 0],.agg #[.int .i64 s',.slice none 0 0]] w fun e w'=>ZG w (fun v w'=>XQ w' v (s+s')) e w':=by
 have hn:=fun w=>Lib.run_eql_slice_nil (P:=Tryz.prog) w 126 248 none 0 0 0 0 Tryz.underlying126
 have hb1:(decide (s<s+s')==decide (0<s'))=true:=beq_iff_eq.2 (decide_eq_decide.2 (by omega))
 have hb2:(decide (0<s')==decide (0<s'))=true:=by simp
 go_enter Tryz.func212,Tryz.ntmps212
 go_wp2_with fail
 exact bodyPost_ret (v:=.agg #[.int .i64 (s+s'),.slice none 0 0]) (by simp [results,Tryz.results212,go_sem]) rfl ⟨_,rfl,XQ.small _ hl hh,((((Ext.refl _).alloc _).alloc _).alloc _)⟩
theorem FT (v v':Value) (a b:Int) (w:World) (hv:XQ w v a) (hv':XQ w v' b) (ha:sz a≤1000000000) (hb:sz b≤1000000000) :
  Calls Tryz.prog 212 #[v,v'] w fun e w'=>ZG w (fun v w'=>XQ w' v (a+b)) e w':=by
 obtain ⟨s,q,n,cap,rfl,hp⟩:=hv
 obtain ⟨s',q',n',cap',rfl,hp'⟩:=hv'
 rcases hp.isNone with ⟨rfl,rfl,rfl,rfl,h0,h1⟩ | ⟨_,_,rfl⟩
 ·rcases hp'.isNone with ⟨rfl,rfl,rfl,rfl,h0',h1'⟩ | ⟨_,_,rfl⟩
  ·by_cases hl : -9223372036854775808≤s+s'∧s+s'≤9223372036854775807
   ·exact It s s' w h0 h1 h0' h1' hl.1 hl.2
   ·refine Dd _ _ _ _ _ _ _ _ _ _ w hp hp' (.inr (.inr ⟨rfl,rfl,?_⟩)) ha hb
    simp only [wrap64,beq_eq_false_iff_ne,ne_eq,decide_eq_decide]
    omega
  ·exact Dd _ _ _ _ _ _ _ _ _ _ w hp hp' (.inr (.inl ⟨rfl,rfl⟩)) ha hb
 ·exact Dd _ _ _ _ _ _ _ _ _ _ w hp hp' (.inl rfl) ha hb
end
section
open Go.RowKit Ig
def B2 (w:World) (R:Nat) (s:Int) (q:Option Addr) (n cap:Nat):Prop:=w.cell? ⟨R,0,none⟩=some (.int .i64 s)∧w.cell? ⟨R,1,none⟩=some (.slice q n cap)
theorem An (v v':Value) (a b:Int) (w:World) (hv:XQ w v a) (hv':XQ w v' b) (ha:sz a≤1000000000) (hb:sz b≤1000000000) :
  Calls Tryz.prog 248 #[v,v'] w fun e w'=>ZG w (fun v w'=>XQ w' v (a - b)) e w':=by
 have HV:=Lib.hid hv
 have HV':=Lib.hid hv'
 obtain ⟨s,q,n,cap,rfl,hp⟩:=hv
 obtain ⟨s',q',n',cap',rfl,hp'⟩:=hv'
 have HBa:=Lib.hid (Bx.AP w (.cells #[.int .i64 s',.slice q' n' cap'] 128) (.cells IZ 128) 128 #[.int .i64 s,.slice q n cap])
 have HBb:=Lib.hid (Bx.Oc w (.cells #[.int .i64 s,.slice q n cap] 128) (.cells IZ 128) 128 #[.int .i64 s',.slice q' n' cap'])
 have HBr:=Lib.hid (Bx.FA w (.cells #[.int .i64 s,.slice q n cap] 128) (.cells #[.int .i64 s',.slice q' n' cap'] 128) 128 IZ)
 have hnb:sz (-b)≤1000000000:=by rw [YQ];exact hb
 have HE:Hid (a + -b=a - b):=(Int.sub_eq_add_neg).symm
 clear hp hp'
 go_enter Tryz.func248,Tryz.ntmps248
 go_wp2_with fail
 have hEW:Ext w (((w.alloc (.cells #[.int .i64 s,.slice q n cap] 128)).alloc (.cells #[.int .i64 s',.slice q' n' cap'] 128)).alloc (.cells IZ 128)):=(((Ext.refl w).alloc _).alloc _).alloc _
 generalize hW:(((w.alloc (.cells #[.int .i64 s,.slice q n cap] 128)).alloc (.cells #[.int .i64 s',.slice q' n' cap'] 128)).alloc (.cells IZ 128))=W0 at *
 have HW:=Lib.hid hW
 clear hW
 obtain ⟨ca0,ca1,fa0,fa1⟩:=HBa.out.two
 obtain ⟨cb0,cb1,fb0,fb1⟩:=HBb.out.two
 clear fa0 fa1 fb0 fb1
 go_region_held3 (fun w'=>w'.cell? ⟨w.heap.size,0,none⟩=some (.int .i64 s)∧w'.cell? ⟨w.heap.size,1,none⟩=some (.slice q n cap)∧w'.cell? ⟨w.heap.size+1,0,none⟩=some (.int .i64 s')∧w'.cell? ⟨w.heap.size+1,1,none⟩=some (.slice q' n' cap'))
  (first | exact⟨hx1.cell ca0,hx1.cell ca1,hx1.cell cb0,hx1.cell cb1⟩ | exact⟨hx2.cell (hx1.cell ca0),hx2.cell (hx1.cell ca1),hx2.cell (hx1.cell cb0),hx2.cell (hx1.cell cb1)⟩ | exact⟨Xc (by omega) (Xc (by omega) (hx2.cell (hx1.cell ca0))),Xc (by omega) (Xc (by omega) (hx2.cell (hx1.cell ca1))),Xc (by omega) (Xc (by omega) (hx2.cell (hx1.cell cb0))),Xc (by omega) (Xc (by omega) (hx2.cell (hx1.cell cb1)))⟩ | go_keep)
  (first
   |(go_at_call 172;refine(Rs _ b _ (HV'.out.ext (hEW.drew))).mono ?_;rintro e w1 ⟨_,rfl,⟨s1,q1,n1,cap1,rfl,hp1⟩,hx1⟩)
   |(go_at_call 212;refine(FT _ _ a (-b) _ (HV.out.ext ((hEW.drew).trans hx1)) ⟨_,_,_,_,rfl,hp1⟩ ha hnb).mono ?_;rw [HE.out];rintro e w2 ⟨_,rfl,⟨s2,q2,n2,cap2,rfl,hp2⟩,hx2⟩;obtain ⟨c0,c1,f0,f1⟩:=((HBr.out.drew.ext hx1).ext hx2).two))
 go_wp2
 refine bodyPost_ret (v:=.agg #[.int .i64 s2,.slice q2 n2 cap2]) (by simp [results,Tryz.results248,go_sem,c0,c1]) rfl ⟨_,rfl,⟨_,_,_,_,rfl,hp2.kp ((Kp.refl _).Gt ((HBr.out.drew.ext hx1).ext hx2).NL TO _ _)⟩,?_⟩
 exact((hEW.drew.trans hx1).trans hx2).Gt (by omega) _ _
theorem T8 (a b:Int):Nr (a - b)=ZU a b:=(O7 a b).symm
theorem Ii (s s':Int) (w:World) :
  Calls Tryz.prog 203 #[.agg #[.int .i64 s,.slice none 0 0],.agg #[.int .i64 s',.slice none 0 0]] w fun e w'=>e = .returned (.int .i64 (ZU s s'))∧Ext w w':=by
 have hn:=fun w=>Lib.run_eql_slice_nil (P:=Tryz.prog) w 126 248 none 0 0 0 0 Tryz.underlying126
 rcases Int.lt_trichotomy s s' with g | g | g
 ·have HC:=Lib.hid (Vf g)
  go_enter Tryz.func203,Tryz.ntmps203
  go_wp2
  go_ret
  exact⟨by rw [HC.out];rfl,((Ext.refl _).alloc _).alloc _⟩
 ·subst g
  have HC:=Lib.hid (E7 s)
  go_enter Tryz.func203,Tryz.ntmps203
  go_wp2
  go_ret
  exact⟨by rw [HC.out];rfl,((Ext.refl _).alloc _).alloc _⟩
 ·have HC:=Lib.hid (Gi g)
  have g2:¬ s<s':=by omega
  go_enter Tryz.func203,Tryz.ntmps203
  go_wp2
  go_ret
  exact⟨by rw [HC.out];rfl,((Ext.refl _).alloc _).alloc _⟩
theorem FL (v v':Value) (a b:Int) (w:World) (s s':Int) (q q':Option Addr) (n n' cap cap':Nat) (hv:YT w s q n cap a) (hv':YT w s' q' n' cap' b) (e1:v = .agg #[.int .i64 s,.slice q n cap]) (e2:v' = .agg #[.int .i64 s',.slice q' n' cap'])
  (hc:q.isNone=false∨(q.isNone=true∧q'.isNone=false)) (ha:sz a≤1000000000) (hb:sz b≤1000000000) :
  Calls Tryz.prog 203 #[v,v'] w fun e w'=>e = .returned (.int .i64 (ZU a b))∧Ext w w':=by
 subst e1 e2
 have hn:=fun w=>Lib.run_eql_slice_nil (P:=Tryz.prog) w 126 248 q n cap 0 0 Tryz.underlying126
 have hn':=fun w=>Lib.run_eql_slice_nil (P:=Tryz.prog) w 126 248 q' n' cap' 0 0 Tryz.underlying126
 have HV:Hid (XQ w (.agg #[.int .i64 s,.slice q n cap]) a):=⟨_,_,_,_,rfl,hv⟩
 have HV':Hid (XQ w (.agg #[.int .i64 s',.slice q' n' cap']) b):=⟨_,_,_,_,rfl,hv'⟩
 have HC:=Lib.hid (T8 a b)
 clear hv hv'
 rcases hc with h1 | ⟨h1,h2⟩
 all_goals
  rw [h1] at hn
  try rw [h2] at hn'
  go_enter Tryz.func203,Tryz.ntmps203
  go_wp2_with fail
  refine(An _ _ a b _ (HV.out.ext (((Ext.refl _).alloc _).alloc _)) (HV'.out.ext (((Ext.refl _).alloc _).alloc _)) ha hb).mono ?_
  rintro e w1 ⟨_,rfl,⟨s1,q1,n1,cap1,rfl,hp1⟩,hx1⟩
  have HP1:=Lib.hid hp1
  clear hp1
  go_wp2_with fail
  refine(Sx _ (a - b) _ ⟨_,_,_,_,rfl,HP1.out⟩).mono ?_
  rw [HC.out]
  rintro e w2 ⟨rfl,hx2⟩
  go_wp2
  go_ret
  exact⟨rfl,((((Ext.refl _).alloc _).alloc _).trans hx1).trans hx2⟩
theorem jP (v v':Value) (a b:Int) (w:World) (hv:XQ w v a) (hv':XQ w v' b) (ha:sz a≤1000000000) (hb:sz b≤1000000000) :
  Calls Tryz.prog 203 #[v,v'] w fun e w'=>e = .returned (.int .i64 (ZU a b))∧Ext w w':=by
 obtain ⟨s,q,n,cap,e1,hp⟩:=hv
 obtain ⟨s',q',n',cap',e2,hp'⟩:=hv'
 rcases hp.isNone with ⟨rfl,rfl,rfl,rfl,h0,h1⟩ | ⟨_,_,rfl⟩
 ·rcases hp'.isNone with ⟨rfl,rfl,rfl,rfl,h0',h1'⟩ | ⟨_,_,rfl⟩
  ·subst e1 e2;exact Ii s s' w
  ·exact FL _ _ _ _ w _ _ _ _ _ _ _ _ hp hp' e1 e2 (.inr ⟨rfl,rfl⟩) ha hb
 ·exact FL _ _ _ _ w _ _ _ _ _ _ _ _ hp hp' e1 e2 (.inl rfl) ha hb
end
section
open Go.RowKit Ig
theorem Ez {s:Int} (h0 : -9223372036854775808≤s) (h1:s≤9223372036854775807):0≤Je s∧Je s<W:=by
 rw [KC];have:=WV;omega
theorem OY {x y:Int}:Jv x y+W*Xm x y=x*y:=by unfold Jv Xm;rw [Int.add_comm];exact Int.mul_ediv_add_emod _ _
theorem OV {s t:Int}:(if(decide (s<0)==decide (t<0)) then Je s*Je t else -(Je s*Je t))=s*t:=by
 unfold Je
 by_cases h1:s<0<;>by_cases h2:t<0<;>simp [h1,h2,Int.neg_mul,Int.mul_neg]
theorem Lo {s t:Int}:sg (!(decide (s<0)==decide (t<0))) (Je s*Je t)=s*t:=by
 rw [← OV (s:=s) (t:=t)];unfold sg
 cases (decide (s<0)==decide (t<0))<;>simp
set_option maxRecDepth 100000 in
set_option maxHeartbeats 2000000 in
theorem IB (s s':Int) (w:World) (h0 : -9223372036854775808≤s) (h1:s≤9223372036854775807) (h0' : -9223372036854775808≤s') (h1':s'≤9223372036854775807)
  (hl:Je s*Je s'≤9223372036854775807) :
  Calls Tryz.prog 198 #[.agg #[.int .i64 s,.slice none 0 0],.agg #[.int .i64 s',.slice none 0 0]] w fun e w'=>ZG w (fun v w'=>XQ w' v (s*s')) e w':=by
 have hn:=fun w=>Lib.run_eql_slice_nil (P:=Tryz.prog) w 126 248 none 0 0 0 0 Tryz.underlying126
 have b1:=Ez h0 h1
 have b2:=Ez h0' h1'
 have hp0:0≤Je s*Je s':=Int.mul_nonneg b1.1 b2.1
 have hhi:Xm (Je s) (Je s')=0:=Int.ediv_eq_zero_of_lt hp0 (by have:=WV;omega)
 have hlo:Jv (Je s) (Je s')=Je s*Je s':=Int.emod_eq_of_lt hp0 (by have:=WV;omega)
 have HHI:=Lib.hid hhi
 have HLO:=Lib.hid hlo
 have HSG:=Lib.hid (OV (s:=s) (t:=s'))
 have HBa:=Lib.hid (Bx.AP w (.cells #[.int .i64 s',.slice none 0 0] 128) (.cells IZ 128) 128 #[.int .i64 s,.slice none 0 0])
 have HBb:=Lib.hid (Bx.Oc w (.cells #[.int .i64 s,.slice none 0 0] 128) (.cells IZ 128) 128 #[.int .i64 s',.slice none 0 0])
 generalize Je s*Je s'=p at *
 clear hhi hlo
 by_cases hsg:(decide (s<0)==decide (s'<0))=true
 all_goals
  have hs2:=HSG.out
  first | rw [if_pos hsg] at hs2 | rw [if_neg hsg] at hs2
  have HS2:=Lib.hid hs2
  try have hsg3:(decide (s<0)==decide (s'<0))=false:=by simpa using hsg
  clear hs2
  go_enter Tryz.func198,Tryz.ntmps198
  go_wp2_with fail
  go_region_held3 (fun w'=>w'.cell? ⟨w.heap.size,0,none⟩=some (.int .i64 s)∧w'.cell? ⟨w.heap.size+1,0,none⟩=some (.int .i64 s'))
   (first | go_keep)
   (first
    |(go_at_call 245;(with_reducible refine(W1 s _ h0 h1).mono ?_);rintro e w1 ⟨rfl,rfl⟩)
    |(go_at_call 245;(with_reducible refine(W1 s' _ h0' h1').mono ?_);rintro e w1 ⟨rfl,rfl⟩)
    |(go_at_call 244;refine(YZ _ _ _ b1 b2).mono ?_;rw [HHI.out,HLO.out];rintro e w1 ⟨rfl,rfl⟩))
  go_wp2
  first
   |exact bodyPost_ret (v:=.agg #[.int .i64 (-p),.slice none 0 0]) (by simp [results,Tryz.results198,go_sem]) rfl ⟨_,rfl,by rw [← HS2.out];exact XQ.small _ (by omega) (by omega),(((Ext.refl w).alloc _).alloc _).alloc _ |>.drewN 1⟩
   |exact bodyPost_ret (v:=.agg #[.int .i64 p,.slice none 0 0]) (by simp [results,Tryz.results198,go_sem]) rfl ⟨_,rfl,by rw [← HS2.out];exact XQ.small _ (by omega) (by omega),(((Ext.refl w).alloc _).alloc _).alloc _ |>.drewN 1⟩
set_option maxRecDepth 100000 in
set_option maxHeartbeats 4000000 in
theorem Pp (s s':Int) (q q':Option Addr) (n n' cap cap':Nat) (a b:Int) (w:World) (hv:YT w s q n cap a) (hv':YT w s' q' n' cap' b)
  (hc:q.isNone=false∨(q.isNone=true∧q'.isNone=false)) (ha:sz a≤1000000000) (hb:sz b≤1000000000) :
  Calls Tryz.prog 198 #[.agg #[.int .i64 s,.slice q n cap],.agg #[.int .i64 s',.slice q' n' cap']] w fun e w'=>ZG w (fun v w'=>XQ w' v (a*b)) e w':=by
 have hn:=fun w=>Lib.run_eql_slice_nil (P:=Tryz.prog) w 126 248 q n cap 0 0 Tryz.underlying126
 have hn':=fun w=>Lib.run_eql_slice_nil (P:=Tryz.prog) w 126 248 q' n' cap' 0 0 Tryz.underlying126
 have HV:Hid (XQ w (.agg #[.int .i64 s,.slice q n cap]) a):=⟨_,_,_,_,rfl,hv⟩
 have HV':Hid (XQ w (.agg #[.int .i64 s',.slice q' n' cap']) b):=⟨_,_,_,_,rfl,hv'⟩
 have HBb:=Lib.hid (Bx.Oc w (.cells #[.int .i64 s,.slice q n cap] 128) (.cells IZ 128) 128 #[.int .i64 s',.slice q' n' cap'])
 have HBr:=Lib.hid (Bx.FA w (.cells #[.int .i64 s,.slice q n cap] 128) (.cells #[.int .i64 s',.slice q' n' cap'] 128) 128 IZ)
 clear hv hv'
 rcases hc with h1 | ⟨h1,h2⟩
 all_goals
  rw [h1] at hn
  try rw [h2] at hn'
  go_enter Tryz.func198,Tryz.ntmps198
  go_wp2_with fail
  refine(YX _ a _ (HV.out.ext ((((Ext.refl _).alloc _).alloc _).alloc _))).mono ?_
  rintro e w1 ⟨_,rfl,⟨p,la,rfl,hsa,hda,hna,hva⟩,hx⟩
  have HB1:=Lib.hid (HBb.out.ext hx)
  have HR1:=Lib.hid (HBr.out.ext hx)
  obtain ⟨c0,c1,f0,f1⟩:=HB1.out.two
  have hlea:=Xt hda hna hva ha
  have HVA:=Lib.hid hva
  clear hva
  go_wp2_with fail
  refine(YX _ b _ (HV'.out.ext (((((Ext.refl _).alloc _).alloc _).alloc _).trans hx))).mono ?_
  rintro e w2 ⟨_,rfl,⟨p',lb,rfl,hsb,hdb,hnb,hvb⟩,hx2⟩
  have HR2:=Lib.hid (HR1.out.ext hx2)
  have hleb:=Xt hdb hnb hvb hb
  have HVB:=Lib.hid hvb
  clear hvb c0 c1 f0 f1
  have hsa2:=hsa.ext hx2
  have HSG:Hid (sg (!(decide (a<0)==decide (b<0))) (dv W la*dv W lb)=a*b):=by
   show sg _ _=_
   rw [HVA.out,HVB.out];exact Lo
  go_wp2_with fail
  refine(BV _ _ la lb _ hda hdb hsa2 hsb (by omega) (by omega)).mono ?_
  rintro e w3 ⟨_,rfl,⟨l3,hs3,hd3,hn3,hv3⟩,hx3⟩
  have HV3:=Lib.hid hv3
  clear hv3
  go_wp2_with fail
  refine(VM _ _ l3 _ hs3 hd3 hn3).mono ?_
  rw [HV3.out,HSG.out]
  rintro e w4 ⟨_,rfl,⟨s4,q4,n4,cap4,rfl,hp4⟩,hx4⟩
  have HR4:=Lib.hid ((HR2.out.ext hx3).ext hx4)
  obtain ⟨c0,c1,f0,f1⟩:=HR4.out.two
  go_wp2
  refine bodyPost_ret (v:=.agg #[.int .i64 s4,.slice q4 n4 cap4]) (by simp [results,Tryz.results198,go_sem,c0,c1]) rfl ⟨_,rfl,⟨_,_,_,_,rfl,hp4.kp ((Kp.refl _).Gt HR4.out.NL TO _ _)⟩,?_⟩
  exact(((((((Ext.refl w).alloc _).alloc _).alloc _).trans hx).trans hx2).trans hx3 |>.trans hx4).Gt (by omega) _ _
set_option maxRecDepth 100000 in
set_option maxHeartbeats 4000000 in
theorem OW (s s':Int) (w:World) (h0 : -9223372036854775808≤s) (h1:s≤9223372036854775807) (h0' : -9223372036854775808≤s') (h1':s'≤9223372036854775807)
  (hl:9223372036854775808≤Je s*Je s') (ha:sz s≤1000000000) (hb:sz s'≤1000000000) :
  Calls Tryz.prog 198 #[.agg #[.int .i64 s,.slice none 0 0],.agg #[.int .i64 s',.slice none 0 0]] w fun e w'=>ZG w (fun v w'=>XQ w' v (s*s')) e w':=by
 have hn:=fun w=>Lib.run_eql_slice_nil (P:=Tryz.prog) w 126 248 none 0 0 0 0 Tryz.underlying126
 have b1:=Ez h0 h1
 have b2:=Ez h0' h1'
 have HV:=Lib.hid (XQ.small w h0 h1)
 have HV':=Lib.hid (XQ.small w h0' h1')
 have HBa:=Lib.hid (Bx.AP w (.cells #[.int .i64 s',.slice none 0 0] 128) (.cells IZ 128) 128 #[.int .i64 s,.slice none 0 0])
 have HBb:=Lib.hid (Bx.Oc w (.cells #[.int .i64 s,.slice none 0 0] 128) (.cells IZ 128) 128 #[.int .i64 s',.slice none 0 0])
 have HBr:=Lib.hid (Bx.FA w (.cells #[.int .i64 s,.slice none 0 0] 128) (.cells #[.int .i64 s',.slice none 0 0] 128) 128 IZ)
 have hhl:=OY (x:=Je s) (y:=Je s')
 have hor:Xm (Je s) (Je s')≠0∨9223372036854775808≤Jv (Je s) (Je s'):=by
  by_cases h:Xm (Je s) (Je s')=0
  ·right;rw [h] at hhl;omega
  ·exact .inl h
 have hcase:(Xm (Je s) (Je s')==0)=false∨((Xm (Je s) (Je s')==0)=true∧9223372036854775808≤Jv (Je s) (Je s')):=by
  by_cases h:Xm (Je s) (Je s')=0
  ·exact .inr ⟨by simpa using h,by rcases hor with g | g;exact absurd h g;exact g⟩
  ·exact .inl (by simpa using h)
 clear hor hhl hl
 generalize hmh:Xm (Je s) (Je s')=mh at *
 generalize hml:Jv (Je s) (Je s')=ml at *
 have HMH:=Lib.hid hmh
 have HML:=Lib.hid hml
 clear hmh hml
 rcases hcase with g1 | ⟨g1,g2⟩
 all_goals
  go_enter Tryz.func198,Tryz.ntmps198
  go_wp2_with fail
  go_region_held3 (fun w'=>w'.cell? ⟨w.heap.size,0,none⟩=some (.int .i64 s)∧w'.cell? ⟨w.heap.size+1,0,none⟩=some (.int .i64 s'))
   (first | go_keep)
   (first
    |(go_at_call 245;(with_reducible refine(W1 s _ h0 h1).mono ?_);rintro e w1 ⟨rfl,rfl⟩)
    |(go_at_call 245;(with_reducible refine(W1 s' _ h0' h1').mono ?_);rintro e w1 ⟨rfl,rfl⟩)
    |(go_at_call 244;refine(YZ _ _ _ b1 b2).mono ?_;rw [HMH.out,HML.out];rintro e w1 ⟨rfl,rfl⟩))
  go_wp2_with fail
  refine(YX _ s _ (HV.out.ext (((((Ext.refl _).alloc _).alloc _).alloc _).drew))).mono ?_
  rintro e w1 ⟨_,rfl,⟨p,la,rfl,hsa,hda,hna,hva⟩,hx⟩
  have HB1:=Lib.hid (HBb.out.drew.ext hx)
  have HR1:=Lib.hid (HBr.out.drew.ext hx)
  obtain ⟨c0,c1,f0,f1⟩:=HB1.out.two
  have hlea:=Xt hda hna hva ha
  have HVA:=Lib.hid hva
  clear hva
  go_wp2_with fail
  refine(YX _ s' _ (HV'.out.ext ((((((Ext.refl _).alloc _).alloc _).alloc _).drew).trans hx))).mono ?_
  rintro e w2 ⟨_,rfl,⟨p',lb,rfl,hsb,hdb,hnb,hvb⟩,hx2⟩
  have HR2:=Lib.hid (HR1.out.ext hx2)
  have hleb:=Xt hdb hnb hvb hb
  have HVB:=Lib.hid hvb
  clear hvb c0 c1 f0 f1
  have hsa2:=hsa.ext hx2
  have HSG:Hid (sg (!(decide (s<0)==decide (s'<0))) (dv W la*dv W lb)=s*s'):=by
   show sg _ _=_
   rw [HVA.out,HVB.out];exact Lo
  go_wp2_with fail
  refine(BV _ _ la lb _ hda hdb hsa2 hsb (by omega) (by omega)).mono ?_
  rintro e w3 ⟨_,rfl,⟨l3,hs3,hd3,hn3,hv3⟩,hx3⟩
  have HV3:=Lib.hid hv3
  clear hv3
  go_wp2_with fail
  refine(VM _ _ l3 _ hs3 hd3 hn3).mono ?_
  rw [HV3.out,HSG.out]
  rintro e w4 ⟨_,rfl,⟨s4,q4,n4,cap4,rfl,hp4⟩,hx4⟩
  have HR4:=Lib.hid ((HR2.out.ext hx3).ext hx4)
  obtain ⟨c0,c1,f0,f1⟩:=HR4.out.two
  go_wp2
  refine bodyPost_ret (v:=.agg #[.int .i64 s4,.slice q4 n4 cap4]) (by simp [results,Tryz.results198,go_sem,c0,c1]) rfl ⟨_,rfl,⟨_,_,_,_,rfl,hp4.kp ((Kp.refl _).Gt HR4.out.NL TO _ _)⟩,?_⟩
  exact((((((((Ext.refl w).alloc _).alloc _).alloc _).drew).trans hx).trans hx2).trans hx3 |>.trans hx4).Gt (by omega) _ _
theorem qU (v v':Value) (a b:Int) (w:World) (hv:XQ w v a) (hv':XQ w v' b) (ha:sz a≤1000000000) (hb:sz b≤1000000000) :
  Calls Tryz.prog 198 #[v,v'] w fun e w'=>ZG w (fun v w'=>XQ w' v (a*b)) e w':=by
 obtain ⟨s,q,n,cap,rfl,hp⟩:=hv
 obtain ⟨s',q',n',cap',rfl,hp'⟩:=hv'
 rcases hp.isNone with ⟨rfl,rfl,rfl,rfl,h0,h1⟩ | ⟨_,_,rfl⟩
 ·rcases hp'.isNone with ⟨rfl,rfl,rfl,rfl,h0',h1'⟩ | ⟨_,_,rfl⟩
  ·by_cases hl:Je s*Je s'≤9223372036854775807
   ·exact IB s s' w h0 h1 h0' h1' hl
   ·exact OW s s' w h0 h1 h0' h1' (by omega) ha hb
  ·exact Pp _ _ _ _ _ _ _ _ _ _ w hp hp' (.inr ⟨rfl,rfl⟩) ha hb
 ·exact Pp _ _ _ _ _ _ _ _ _ _ w hp hp' (.inl rfl) ha hb
end
section
open Go.RowKit Ig
theorem zQ (n:Int) (w:World) (h0 : -9223372036854775808≤n) (h1:n≤9223372036854775807) :
  Calls Tryz.prog 169 #[.int .i64 n] w fun e w'=>ZG w (fun v w'=>XQ w' v n) e w':=by
 go_enter Tryz.func169,Tryz.ntmps169
 go_wp2
 exact bodyPost_ret (v:=.agg #[.int .i64 n,.slice none 0 0]) (by simp [results,Tryz.results169,go_sem]) rfl ⟨_,rfl,XQ.small _ h0 h1,(Ext.refl _).alloc _⟩
theorem Uj {a b:Int} (hb:0<b):(0≤a.tmod b→a.tdiv b=a / b∧a.tmod b=a%b)∧(a.tmod b<0→a.tdiv b - 1=a / b∧a.tmod b+b=a%b):=by
 have h1:=Int.mul_tdiv_add_tmod a b
 have h3:a.tmod b<b∧-b<a.tmod b:=by
  have:=Int.tmod_lt_of_pos a hb
  refine⟨this,?_⟩
  have h:=Int.tmod_lt_of_pos (-a) hb
  rw [Int.neg_tmod] at h;omega
 generalize a.tdiv b=q at *
 generalize a.tmod b=r at *
 constructor
 ·intro hr
  have g1:q*b≤a:=by rw [Int.mul_comm];omega
  have g2:a<(q+1)*b:=by rw [Int.add_mul,Int.mul_comm q];omega
  exact⟨(Xw hb g1 g2).symm,by rw [Zg g1 g2,Int.mul_comm q];omega⟩
 ·intro hr
  have g1:(q - 1)*b≤a:=by rw [Int.sub_mul,Int.mul_comm q];omega
  have g2:a<(q - 1+1)*b:=by rw [show q - 1+1=q from by omega,Int.mul_comm];omega
  exact⟨(Xw hb g1 g2).symm,by rw [Zg g1 g2,Int.sub_mul,Int.mul_comm q];omega⟩
def dH (a b:Int) (r:Value) (w':World):Prop:=∃ v v',r = .tuple #[v,v']∧XQ w' v (a / b)∧XQ w' v' (a%b)
set_option maxRecDepth 100000 in
set_option maxHeartbeats 400000 in
theorem SD (s s':Int) (w:World) (h0 : -9223372036854775807≤s) (h1:s≤9223372036854775807) (hb0:0<s') (hb1:s'≤9223372036854775807) :
  Calls Tryz.prog 199 #[.agg #[.int .i64 s,.slice none 0 0],.agg #[.int .i64 s',.slice none 0 0]] w fun e w'=>ZG w (dH s s') e w':=by
 have hn:=fun w=>Lib.run_eql_slice_nil (P:=Tryz.prog) w 126 248 none 0 0 0 0 Tryz.underlying126
 have hm:(s != -9223372036854775808)=true:=by simp;omega
 have hz:(s'==0)=false:=by simp;omega
 have hT:=Uj (a:=s) hb0
 have HT:=Lib.hid hT
 have hbd : -9223372036854775807≤s.tdiv s'∧s.tdiv s'≤9223372036854775807:=by
  have h:=Int.natAbs_tdiv_le_natAbs s s';omega
 have hrd : -9223372036854775807≤s.tmod s'∧s.tmod s'≤9223372036854775807:=by
  have:=Int.tmod_lt_of_pos s hb0
  have h:=Int.tmod_lt_of_pos (-s) hb0
  rw [Int.neg_tmod] at h;omega
 clear hT
 have hqr:Hid (-9223372036854775808≤s / s'∧s / s'≤9223372036854775807∧0≤s%s'∧s%s'≤9223372036854775807):=by
  have r0:=Int.emod_nonneg s (by omega:s'≠0)
  have r1:=Int.emod_lt_of_pos s hb0
  by_cases hr:0≤s.tmod s'
  ·have:=HT.out.1 hr;exact⟨by omega,by omega,r0,by omega⟩
  ·have:=HT.out.2 (by omega);exact⟨by omega,by omega,r0,by omega⟩
 by_cases hr:0≤s.tmod s'
 ·have HR:=Lib.hid (HT.out.1 hr)
  go_enter Tryz.func199,Tryz.ntmps199
  go_wp2_with fail
  go_quiet (fail)
  go_wp2
  refine bodyPost_ret (v:=.tuple #[.agg #[.int .i64 (s.tdiv s'),.slice none 0 0],.agg #[.int .i64 (s.tmod s'),.slice none 0 0]]) (by simp [results,Tryz.results199,go_sem]) rfl ⟨_,rfl,⟨_,_,rfl,?_,?_⟩,?_⟩
  ·rw [HR.out.1];exact XQ.small _ hqr.out.1 hqr.out.2.1
  ·rw [HR.out.2];exact XQ.small _ (by have:=hqr.out;omega) hqr.out.2.2.2
  ·repeat (first | (with_reducible exact Ext.refl _) | (with_reducible refine Ext.drewN ?_ _) | (with_reducible refine Ext.drew ?_) | (with_reducible refine Ext.alloc ?_ _) | (with_reducible refine Ext.Xl ?_ (by dsimp only;omega) _))
 ·have HR:=Lib.hid (HT.out.2 (by omega))
  have hw1:IntKind.i64.wrap (s.tdiv s' - 1)=s.tdiv s' - 1:=IntWalk.i64_in _ (by have:=HR.out;have:=hqr.out;omega)
  have hw2:IntKind.i64.wrap (s.tmod s'+s')=s.tmod s'+s':=IntWalk.i64_in _ (by omega)
  have hr:s.tmod s'<0:=by omega
  go_enter Tryz.func199,Tryz.ntmps199
  go_wp2_with fail
  go_quiet (fail)
  go_wp2
  go_quiet (fail)
  go_wp2
  refine bodyPost_ret (v:=.tuple #[.agg #[.int .i64 (s.tdiv s' - 1),.slice none 0 0],.agg #[.int .i64 (s.tmod s'+s'),.slice none 0 0]]) (by simp [results,Tryz.results199,go_sem]) rfl ⟨_,rfl,⟨_,_,rfl,?_,?_⟩,?_⟩
  ·rw [HR.out.1];exact XQ.small _ hqr.out.1 hqr.out.2.1
  ·rw [HR.out.2];exact XQ.small _ (by have:=hqr.out;omega) hqr.out.2.2.2
  ·repeat (first | (with_reducible exact Ext.refl _) | (with_reducible refine Ext.drewN ?_ _) | (with_reducible refine Ext.drew ?_) | (with_reducible refine Ext.alloc ?_ _) | (with_reducible refine Ext.Xl ?_ (by dsimp only;omega) _))
end
section
open Go.RowKit Ig
def Nq (F:Gs) (w:World):Prop:=∀ b c T,F b=some (c,T)→∃ fr,w.heap[b]?=some (.cells c T fr)
theorem Fits.r {F:Gs} {w:World} (h:Fits F w):Nq F w:=h.row
theorem Nq.le {F F':Gs} {w:World} (h:Nq F' w) (k:Gs.le F F'):Nq F w:=fun b c T e=>h b c T (k b _ e)
def UB (w w':World):Prop:=∀ (b:Nat) (c:Array Value) (fr:Nat×Nat),w.heap[b]?=some (.cells c 248 fr)→∃ fr',w'.heap[b]?=some (.cells c 248 fr')
theorem KS.WX {w w':World} (h:UB w w') {b:Nat} (hb:KS w b 248):KS w' b 248:=by
 obtain ⟨c,fr,e⟩:=hb;obtain ⟨fr',e'⟩:=h b c fr e;exact⟨c,fr',e'⟩
theorem Cells.WX {w w':World} (h:UB w w') {q:Option Addr} {l:List Int} (hc:Cells w q JY l):Cells w' q JY l:=by
 intro i hi
 obtain ⟨b,off,e,ht,hcell⟩:=hc i hi
 refine⟨b,off,e,KS.WX h ht,?_⟩
 obtain ⟨c,fr,hb⟩:=ht
 obtain ⟨fr',hb'⟩:=h b c fr hb
 have e1:w.cell? ⟨b,off+i,none⟩=c[off+i]?:=by simp [World.cell?,hb]
 have e2:w'.cell? ⟨b,off+i,none⟩=c[off+i]?:=by simp [World.cell?,hb']
 rw [e2,← e1];exact hcell
theorem SL.WX {w w':World} (h:UB w w') {v:Value} {l:List Int} (hs:SL w v JY l):SL w' v JY l:=by
 obtain ⟨q,cap,h1,h2,h3,h4⟩:=hs
 exact⟨q,cap,h1,h2,h3,h4.WX h⟩
theorem YT.WX {w w':World} (h:UB w w') {s:Int} {q:Option Addr} {n cap:Nat} {z:Int} (hv:YT w s q n cap z):YT w' s q n cap z:=by
 rcases hv with hv | ⟨b,off,l,h1,h2,h3,h4,h5,h6⟩
 ·exact .inl hv
 ·exact .inr ⟨b,off,l,h1,h2,h3,h4,h5.WX h,h6⟩
theorem QT.lift {P:Program} {f:FuncId} {args:List Value} {w:World} {F:Gs} {γ:Type} {val:γ→Value} {R:γ→World→Prop} (pr:γ→Prop) (he:Enters P f) (hF:Fits F w)
  (h:Calls P f args.toArray w fun e w'=>∃ c,e = .returned (val c)∧R c w'∧pr c∧Ext w w') (hR:∀ c w' w'',UB w' w''→R c w'→R c w''):QT P f args w F val (fun c F=>(∀ w,Nq F w→R c w)∧pr c):=by
 refine⟨he,h.mono ?_⟩
 rintro e w' ⟨c,rfl,hr,hpr,hx⟩
 refine⟨c,fun b=>if b<w.heap.size then F b else match w'.heap[b]? with | some (.cells c T _)=>if T=248 then some (c,248) else none | _=>none,rfl,.of hx,?_,?_,⟨?_,?_⟩,?_⟩
 ·intro b x hb
  show(if b<w.heap.size then _ else _)=_
  rw [if_pos (hF.lt hb)];exact hb
 ·intro b hb
  show(if b<w.heap.size then _ else _)=_
  rw [if_pos hb]
 ·intro b c T hb
  by_cases hlt:b<w.heap.size
  ·rw [if_pos hlt] at hb
   obtain ⟨fr,e⟩:=hF.row b c T hb
   exact⟨fr,by rw [hx.block b hlt];exact e⟩
  ·rw [if_neg hlt] at hb
   split at hb
   ·rename_i c' T' fr heq
    split at hb
    ·rename_i hT;cases hb;exact⟨fr,by rw [heq,hT]⟩
    ·cases hb
   ·cases hb
 ·intro b c fr hb
  show(if b<w.heap.size then _ else _)=_
  by_cases hlt:b<w.heap.size
  ·rw [if_pos hlt]
   rw [hx.block b hlt] at hb
   exact hF.all b c fr hb
  ·rw [if_neg hlt,hb];simp
 ·intro F'' hle
  refine⟨fun w'' hw''=>?_,hpr⟩
  refine hR c w' w'' (fun b c fr hb=>?_) hr
  refine hw'' b c _ (hle b _ ?_)
  show(if b<w.heap.size then _ else _)=_
  by_cases hlt:b<w.heap.size
  ·rw [if_pos hlt];rw [hx.block b hlt] at hb;exact hF.all b c fr hb
  ·rw [if_neg hlt,hb];simp
structure Bg where
 s:Int
 q:Option Addr
 n:Nat
 cap:Nat
@[reducible] def Bg.v (g:Bg):Value:=.agg #[.int .i64 g.s,.slice g.q g.n g.cap]
def Jq (F:Gs) (g:Bg) (z:Int):Prop:=∀ w,Nq F w→YT w g.s g.q g.n g.cap z
theorem Jq.le {F F':Gs} {g:Bg} {z:Int} (h:Jq F g z) (k:Gs.le F F'):Jq F' g z:=fun w hw=>h w (hw.le k)
theorem Jq.at {F:Gs} {g:Bg} {z:Int} (h:Jq F g z) {w:World} (hw:Fits F w):XQ w g.v z:=⟨_,_,_,_,rfl,h w hw.r⟩
theorem Jq.small (F:Gs) {z:Int} (h0 : -9223372036854775808≤z) (h1:z≤9223372036854775807):Jq F ⟨z,none,0,0⟩ z:=fun _ _=>.inl ⟨rfl,rfl,rfl,rfl,h0,h1⟩
abbrev Xe (P:Program) (f:FuncId) (args:List Value) (w:World) (F:Gs) (z:Int):Prop:=QT P f args w F Bg.v (fun g F=>Jq F g z)
theorem Xe.of {P:Program} {f:FuncId} {args:List Value} {w:World} {F:Gs} {z:Int} (he:Enters P f) (hF:Fits F w) (h:Calls P f args.toArray w fun e w'=>ZG w (fun v w'=>XQ w' v z) e w'):Xe P f args w F z:=by
 refine(QT.lift (fun _=>True) he hF (val:=Bg.v) (R:=fun(g:Bg) w=>YT w g.s g.q g.n g.cap z) (h.mono ?_) (fun c w' w'' hs hr=>hr.WX hs)).imp fun c F' hf=>⟨c,rfl,fun F'' hle=>Jq.le hf.1 hle⟩
 rintro e w' ⟨v,rfl,⟨s,q,n,cap,rfl,hp⟩,hx⟩
 exact⟨⟨s,q,n,cap⟩,rfl,hp,trivial,hx⟩
abbrev Qc [Dr] (P:Program) (f:FuncId) (args:List Value) (w:World) (F:Gs) (v:Value):Prop:=QT P f args w F (fun(_:Unit)=>v) (fun _ _=>True)
theorem Qc.of {P:Program} {f:FuncId} {args:List Value} {w:World} {F:Gs} {v:Value} (he:Enters P f) (hF:Fits F w) (h:Calls P f args.toArray w fun e w'=>e = .returned v∧Ext w w'):Qc P f args w F v:=by
 have:=QT.lift (γ:=Unit) (val:=fun _=>v) (R:=fun _ _=>True) (fun _=>True) he hF (h.mono fun e w' ⟨h1,h2⟩=>⟨(),h1,trivial,trivial,h2⟩) (fun _ _ _ _ h=>h)
 exact this.imp fun c F' _=>⟨(),rfl,fun _ _=>trivial⟩
section
variable {w:World} {F:Gs} {g g':Bg} {a b:Int}
theorem DI (hF:Fits F w) (h:Jq F g a):Qc Tryz.prog 171 [g.v] w F (.int .i64 (Nr a)) :=
 .of (enters_of Tryz.func171 (by rfl) rfl) hF (Sx _ a w (h.at hF))
theorem D5 (hF:Fits F w) (h:Jq F g a):Xe Tryz.prog 172 [g.v] w F (-a) :=
 .of (enters_of Tryz.func172 (by rfl) rfl) hF (Rs _ a w (h.at hF))
theorem xg (hF:Fits F w) (h:Jq F g a):Xe Tryz.prog 228 [g.v] w F (Je a) :=
 .of (enters_of Tryz.func228 (by rfl) rfl) hF (jY _ a w (h.at hF))
theorem FR (hF:Fits F w) (h:Jq F g a) (h':Jq F g' b) (ha:sz a≤1000000000) (hb:sz b≤1000000000):Xe Tryz.prog 212 [g.v,g'.v] w F (a+b) :=
 .of (enters_of Tryz.func212 (by rfl) rfl) hF (FT _ _ a b w (h.at hF) (h'.at hF) ha hb)
theorem vC (hF:Fits F w) (h:Jq F g a) (h':Jq F g' b) (ha:sz a≤1000000000) (hb:sz b≤1000000000):Xe Tryz.prog 248 [g.v,g'.v] w F (a - b) :=
 .of (enters_of Tryz.func248 (by rfl) rfl) hF (An _ _ a b w (h.at hF) (h'.at hF) ha hb)
theorem G8 (hF:Fits F w) (h:Jq F g a) (h':Jq F g' b) (ha:sz a≤1000000000) (hb:sz b≤1000000000):Xe Tryz.prog 198 [g.v,g'.v] w F (a*b) :=
 .of (enters_of Tryz.func198 (by rfl) rfl) hF (qU _ _ a b w (h.at hF) (h'.at hF) ha hb)
theorem gV (hF:Fits F w) (h:Jq F g a) (h':Jq F g' b) (ha:sz a≤1000000000) (hb:sz b≤1000000000):Qc Tryz.prog 203 [g.v,g'.v] w F (.int .i64 (ZU a b)) :=
 .of (enters_of Tryz.func203 (by rfl) rfl) hF (jP _ _ a b w (h.at hF) (h'.at hF) ha hb)
theorem M9 {n:Int} (hF:Fits F w) (h0 : -9223372036854775808≤n) (h1:n≤9223372036854775807):Xe Tryz.prog 169 [.int .i64 n] w F n :=
 .of (enters_of Tryz.func169 (by rfl) rfl) hF (zQ n w h0 h1)
end
structure Sr where
 q:Option Addr
 n:Nat
 cap:Nat
@[reducible] def Sr.v (r:Sr):Value:=.slice r.q r.n r.cap
def KT (F:Gs) (r:Sr) (l:List Int):Prop:=(∀ w,Nq F w→SL w r.v JY l)∧DG W l∧NZ l
theorem KT.le {F F':Gs} {r:Sr} {l:List Int} (h:KT F r l) (k:Gs.le F F'):KT F' r l:=⟨fun w hw=>h.1 w (hw.le k),h.2⟩
section
variable {w:World} {F:Gs} {g g':Bg} {a b:Int}
theorem Ew (hF:Fits F w) (h:Jq F g a):QT Tryz.prog 234 [g.v] w F (fun(c:Sr×List Int)=>.tuple #[.bool (decide (a<0)),.slice c.1.q c.1.n c.1.cap]) (fun c F=>KT F c.1 c.2∧dv W c.2=Je a):=by
 refine(QT.lift (val:=fun(c:Sr×List Int)=>.tuple #[.bool (decide (a<0)),.slice c.1.q c.1.n c.1.cap]) (R:=fun c w=>SL w c.1.v JY c.2) (fun c=>DG W c.2∧NZ c.2∧dv W c.2=Je a)
  (enters_of Tryz.func234 (by rfl) rfl) hF ((YX _ a w (h.at hF)).mono ?_) (fun c w' w'' hs hr=>hr.WX hs)).imp fun c F' hf=>⟨c,rfl,fun F'' hle=>⟨KT.le ⟨hf.1,hf.2.1,hf.2.2.1⟩ hle,hf.2.2.2⟩⟩
 rintro e w' ⟨_,rfl,⟨p,l,rfl,hs,h1,h2,h3⟩,hx⟩
 obtain ⟨q,cap,rfl,hq⟩:=hs
 exact⟨(⟨q,l.length,cap⟩,l),rfl,⟨q,cap,rfl,hq⟩,⟨h1,h2,h3⟩,hx⟩
theorem Of {neg:Bool} {r:Sr} {l:List Int} (hF:Fits F w) (h:KT F r l):Xe Tryz.prog 235 [.bool neg,r.v] w F (sg neg (dv W l)) :=
 .of (enters_of Tryz.func235 (by rfl) rfl) hF (VM neg _ l w (h.1 w hF.r) h.2.1 h.2.2)
theorem T3 {r r':Sr} {la lb:List Int} (hF:Fits F w) (h:KT F r la) (h':KT F r' lb) (hb0:lb≠[]) (h1:la.length≤10000000000) (h2:lb.length≤10000000000) :
  QT Tryz.prog 247 [r.v,r'.v] w F (fun(c:(Sr×List Int)×(Sr×List Int))=>.tuple #[.slice c.1.1.q c.1.1.n c.1.1.cap,.slice c.2.1.q c.2.1.n c.2.1.cap])
   (fun c F=>(KT F c.1.1 c.1.2∧KT F c.2.1 c.2.2)∧dv W c.1.2=dv W la / dv W lb∧dv W c.2.2=dv W la%dv W lb):=by
 refine(QT.lift (val:=fun(c:(Sr×List Int)×(Sr×List Int))=>.tuple #[.slice c.1.1.q c.1.1.n c.1.1.cap,.slice c.2.1.q c.2.1.n c.2.1.cap]) (R:=fun c w=>SL w c.1.1.v JY c.1.2∧SL w c.2.1.v JY c.2.2)
  (fun c=>(DG W c.1.2∧NZ c.1.2)∧(DG W c.2.2∧NZ c.2.2)∧dv W c.1.2=dv W la / dv W lb∧dv W c.2.2=dv W la%dv W lb)
  (enters_of Tryz.func247 (by rfl) rfl) hF ((AX _ _ la lb w h.2.1 h'.2.1 h.2.2 h'.2.2 (h.1 w hF.r) (h'.1 w hF.r) hb0 h1 h2).mono ?_) (fun c w' w'' hs hr=>⟨hr.1.WX hs,hr.2.WX hs⟩)).imp
  fun c F' hf=>⟨c,rfl,fun F'' hle=>⟨⟨KT.le ⟨fun w hw=>(hf.1 w hw).1,hf.2.1⟩ hle,KT.le ⟨fun w hw=>(hf.1 w hw).2,hf.2.2.1⟩ hle⟩,hf.2.2.2⟩⟩
 rintro e w' ⟨_,rfl,⟨pq,pr,lq,lr,rfl,hsq,hsr,hdq,hdr,hvq,hvr⟩,hx⟩
 obtain ⟨q,cap,rfl,hq⟩:=hsq
 obtain ⟨q',cap',rfl,hq'⟩:=hsr
 exact⟨((⟨q,lq.length,cap⟩,lq),(⟨q',lr.length,cap'⟩,lr)),rfl,⟨⟨q,cap,rfl,hq⟩,⟨q',cap',rfl,hq'⟩⟩,⟨hdq,hdr,hvq,hvr⟩,hx⟩
end
end
section
open Go.RowKit Ig
theorem Bl {a b:Int} (hb:0<b) :
  (0≤sg (decide (a<0)) (Je a%b)→sg (decide (a<0)) (Je a / b)=a / b∧sg (decide (a<0)) (Je a%b)=a%b) ∧
  (sg (decide (a<0)) (Je a%b)<0→sg (decide (a<0)) (Je a / b) - 1=a / b∧sg (decide (a<0)) (Je a%b)+b=a%b):=by
 have q1:=Int.mul_ediv_add_emod (Je a) b
 have q2:=Int.emod_nonneg (Je a) (by omega:b≠0)
 have q3:=Int.emod_lt_of_pos (Je a) hb
 generalize Je a / b=q at *
 generalize hr:Je a%b=r at *
 by_cases h:a<0
 ·rw [Bc h] at q1
  have e1:sg (decide (a<0)) r = -r:=by simp [sg,h]
  have e2:sg (decide (a<0)) q = -q:=by simp [sg,h]
  rw [e1,e2]
  constructor
  ·intro h0
   have:r=0:=by omega
   have g1 : -q*b≤a:=by rw [Int.neg_mul,Int.mul_comm];omega
   have g2:a<(-q+1)*b:=by rw [Int.add_mul,Int.neg_mul,Int.mul_comm q];omega
   exact⟨(Xw hb g1 g2).symm,by rw [Zg g1 g2,Int.neg_mul,Int.mul_comm q];omega⟩
  ·intro h0
   have g1:(-q - 1)*b≤a:=by rw [Int.sub_mul,Int.neg_mul,Int.mul_comm q];omega
   have g2:a<(-q - 1+1)*b:=by rw [show -q - 1+1 = -q from by omega,Int.neg_mul,Int.mul_comm];omega
   exact⟨(Xw hb g1 g2).symm,by rw [Zg g1 g2,Int.sub_mul,Int.neg_mul,Int.mul_comm q];omega⟩
 ·rw [V3 (by omega)] at q1 hr
  have e1:sg (decide (a<0)) r=r:=by simp [sg,h]
  have e2:sg (decide (a<0)) q=q:=by simp [sg,h]
  rw [e1,e2]
  constructor
  ·intro _
   have g1:q*b≤a:=by rw [Int.mul_comm];omega
   have g2:a<(q+1)*b:=by rw [Int.add_mul,Int.mul_comm q];omega
   exact⟨(Xw hb g1 g2).symm,by rw [Zg g1 g2,Int.mul_comm q];omega⟩
  ·intro h0;omega
theorem YU (x:Int):Nr x<0↔x<0:=by unfold Nr;split<;>(try split)<;>omega
theorem Sk (a b:Int):sz (Je a / b)≤sz a:=by
 rw [← Er a]
 apply KF
 exact Int.natAbs_ediv_le_natAbs _ _
theorem js (n:Bool) (x:Int):sz (sg n x)=sz x:=by unfold sg;split<;>simp [YQ]
theorem Am {a b:Int} (hb:0<b):sz (a%b)≤sz b:=by
 apply KF
 have:=Int.emod_nonneg a (by omega:b≠0)
 have:=Int.emod_lt_of_pos a hb
 omega
abbrev RL (P:Program) (f:FuncId) (args:List Value) (w:World) (F:Gs) (y z:Int):Prop:=QT P f args w F (fun(c:Bg×Bg)=>.tuple #[c.1.v,c.2.v]) (fun c F=>Jq F c.1 y∧Jq F c.2 z)
theorem AV {w:World} {F:Gs} {g g':Bg} {a b:Int} (hF:Fits F w) (h:Jq F g a) (h':Jq F g' b) (hb0:0<b) (hza:sz a≤1000000000) (hzb:sz b≤1000000000) (hcase:g.q.isNone=true→g'.q.isNone=true→(g.s != -9223372036854775808)=false) :
  RL Tryz.prog 199 [g.v,g'.v] w F (a / b) (a%b):=by
 refine QT.intro (G:=fun F=>Jq F g a∧Jq F g' b) Tryz.func199 rfl (by rfl) rfl rfl hF (fun F' hF'=>⟨h.le hF',h'.le hF'⟩)<|QG<|QB ?_
 refine Q5 rfl (vs:=[_,_]) rfl (fun b2=>?_)
 refine Q5 rfl (vs:=[_,_]) rfl (fun b3=>?_)
 refine Qf ZW (fun b4=>?_)
 refine Qf ZW (fun b5=>?_)
 refine JS_nt<|QG ?_
 refine VR 28 (.bool false) ?_ ?_
 ·
  refine QB<|QA (QI rfl Gg KX)<|QA (Qo rfl KX (.there (.there (.there .here))) (.skip (.here .nil)))<|QA (Vx rfl rfl YR)<|JS_mv rfl ?_
  refine Qn (t:=19) rfl (fun hb19=>?_) (fun hb19=>?_)
  ·
   refine QJ rfl rfl<|QA (QI rfl Gg KX)<|QJ rfl rfl<|QA (Qo rfl KX (.there (.there .here)) (.skip (.here .nil)))<|QJ rfl rfl<|QA (Vx rfl rfl YR)<|QA (Qj rfl rfl rfl)<|JS_mv rfl ?_
   refine Qn (t:=24) rfl (fun hb24=>?_) (fun hb24=>?_)
   ·
    refine QJ rfl rfl<|QA (QI rfl Bi Qs)<|QJ rfl rfl<|QA (Qo rfl Qs (.there (.there (.there .here))) (.here .nil))<|QJ rfl rfl<|QA (QU rfl rfl rfl)<|QA (Qj rfl rfl rfl)<|QE ?_
    exact Jo (exd 15 rfl rfl) (congrArg (fun b=>some (Value.bool b)) (hcase hb19 hb24)) subl_r (fun _ h=>h)
   ·
    refine QN rfl rfl rfl<|QN rfl rfl rfl<|QN rfl rfl rfl<|QA (Qh rfl rfl rfl)<|QE ?_
    exact Jo (exd 15 rfl rfl) rfl subl_r (fun _ h=>h)
  ·
   refine QN rfl rfl rfl<|QN rfl rfl rfl<|QN rfl rfl rfl<|QA (Qh rfl rfl rfl)<|JS_mv rfl<|QN rfl rfl rfl<|QN rfl rfl rfl<|QN rfl rfl rfl<|QA (Qh rfl rfl rfl)<|QE ?_
   exact Jo (exd 14 rfl rfl) rfl subl_r (fun _ h=>h)
 ·
  refine YF rfl ?_
  ·
   refine QO<|QC<|J_sr<|QA (QL (vs:=[_,_]) rfl QY (.there (.there (.there .here))) (.here (.here .nil)) rfl) ?_
   refine QH rfl (fun w F hF ⟨ha,hb⟩=>Ew hF (by assumption)) (fun c53=>?_);rcases c53 with ⟨v53,l53⟩;dsimp only
   refine JH _ (fun w F hF ⟨⟨ha,hb⟩,⟨h53,h53p⟩⟩=>And.intro h53.2 h53p) (fun p53=>?_)
   have hl53:=Xt p53.1.1 p53.1.2 p53.2 hza
   refine JS_mv rfl<|QA (QK rfl rfl)<|QA (QK rfl rfl)<|JS_as rfl<|JS_as rfl<|JS_nt<|J_sr<|QA (QL (vs:=[_,_]) rfl QY (.there (.there .here)) (.here (.here .nil)) rfl) ?_
   refine QH rfl (fun w F hF ⟨⟨ha,hb⟩,⟨h53,h53p⟩⟩=>Ew hF (by assumption)) (fun c58=>?_);rcases c58 with ⟨v58,l58⟩;dsimp only
   refine JH _ (fun w F hF ⟨⟨⟨ha,hb⟩,⟨h53,h53p⟩⟩,⟨h58,h58p⟩⟩=>And.intro h58.2 h58p) (fun p58=>?_)
   have hl58:=Xt p58.1.1 p58.1.2 p58.2 hzb
   have hb58:l58≠[]:=by rintro rfl;have:=p58.2;rw [V3 (by omega)] at this;simp at this;omega
   refine JS_mv rfl<|QA (QK rfl rfl)<|QA (QK rfl rfl)<|JS_as rfl<|JS_as rfl<|JS_nt<|J_sr<|JS_mv rfl<|JS_mv rfl ?_
   refine QH rfl (fun w F hF ⟨⟨⟨ha,hb⟩,⟨h53,h53p⟩⟩,⟨h58,h58p⟩⟩=>T3 hF (by assumption) (by assumption) hb58 (by omega) (by omega)) (fun c64=>?_);rcases c64 with ⟨⟨v64,l64⟩,v64_,l64_⟩;dsimp only
   refine JH _ (fun w F hF ⟨⟨⟨⟨ha,hb⟩,⟨h53,h53p⟩⟩,⟨h58,h58p⟩⟩,⟨⟨h64,h64_⟩,h64p⟩⟩=>And.intro h64.2 (And.intro h64_.2 h64p)) (fun p64=>?_)
   rw [p53.2,p58.2,V3 (show 0≤b by omega)] at p64
   refine JS_mv rfl<|QA (QK rfl rfl)<|QA (QK rfl rfl)<|JS_as rfl<|JS_as rfl<|JS_nt<|J_sr<|JS_mv rfl<|JS_mv rfl ?_
   refine QH rfl (fun w F hF ⟨⟨⟨⟨ha,hb⟩,⟨h53,h53p⟩⟩,⟨h58,h58p⟩⟩,⟨⟨h64,h64_⟩,h64p⟩⟩=>Of hF (by assumption)) (fun g69=>?_)
   refine JS_mv rfl<|JS_mv rfl ?_
   refine QH rfl (fun w F hF ⟨⟨⟨⟨⟨ha,hb⟩,⟨h53,h53p⟩⟩,⟨h58,h58p⟩⟩,⟨⟨h64,h64_⟩,h64p⟩⟩,h69⟩=>Of hF (by assumption)) (fun g72=>?_)
   refine Qf ZW (fun b14=>?_)
   refine Qf ZW (fun b15=>?_)
   refine QQ (vs:=[_,_]) rfl rfl rfl QY rfl (.there .here) (.here (.here .nil)) ⟨rfl,rfl,trivial⟩<|QQ (vs:=[_,_]) rfl rfl rfl QY rfl .here (.here (.here .nil)) ⟨rfl,rfl,trivial⟩<|JS_nt<|QG<|J_sr<|QA (QL (vs:=[_,_]) rfl QY .here (.here (.here .nil)) rfl) ?_
   refine QH rfl (fun w F hF ⟨⟨⟨⟨⟨⟨ha,hb⟩,⟨h53,h53p⟩⟩,⟨h58,h58p⟩⟩,⟨⟨h64,h64_⟩,h64p⟩⟩,h69⟩,h72⟩=>DI hF (by assumption)) (fun _=>?_)
   refine QA (QU rfl rfl rfl)<|QE<|QC ?_
   have hsz72:sz (sg (decide (a<0)) (dv W l64_))≤1000000000:=by rw [js,p64.2.2.2];exact Nat.le_trans (Am hb0) hzb
   have hsz69:sz (sg (decide (a<0)) (dv W l64))≤1000000000:=by rw [js,p64.2.2.1];exact Nat.le_trans (Sk a b) hza
   refine QP rfl (fun hc=>?_) (fun hc=>?_)
   ·
    refine Xo 6 subl_r mixed (by kernel_rfl) (by kernel_rfl) ?_
    simp only [List.take_succ_cons,List.take_zero,List.drop_succ_cons,List.drop_zero]
    refine QM (QL (vs:=[_,_]) rfl QY (.there .here) (.here (.here .nil)) rfl) ?_
    refine Qg rfl (fun w F hF h9=>M9 hF (by omega) (by omega)) (fun g77=>?_)
    refine Qg rfl (fun w F hF ⟨⟨⟨⟨⟨⟨⟨⟨ha,hb⟩,⟨h53,h53p⟩⟩,⟨h58,h58p⟩⟩,⟨⟨h64,h64_⟩,h64p⟩⟩,h69⟩,h72⟩,_⟩,h77⟩=>vC hF (by assumption) (by assumption) hsz69 (by decide)) (fun g78=>?_)
    refine QM (QL (vs:=[_,_]) rfl QY .here (.here (.here .nil)) rfl)<|QM (QL (vs:=[_,_]) rfl QY (.there (.there (.there (.there .here)))) (.here (.here .nil)) rfl) ?_
    refine Qg rfl (fun w F hF ⟨⟨⟨⟨⟨⟨⟨⟨⟨ha,hb⟩,⟨h53,h53p⟩⟩,⟨h58,h58p⟩⟩,⟨⟨h64,h64_⟩,h64p⟩⟩,h69⟩,h72⟩,_⟩,h77⟩,h78⟩=>FR hF (by assumption) hb hsz72 hzb) (fun g81=>?_)
    refine K6<|QQ (vs:=[_,_]) rfl rfl rfl QY rfl (.there .here) (.here (.here .nil)) ⟨rfl,rfl,trivial⟩<|QQ (vs:=[_,_]) rfl rfl rfl QY rfl .here (.here (.here .nil)) ⟨rfl,rfl,trivial⟩<|JS_nt<|QG<|JR (.cons_cons _ (.cons_cons _ (.cons _ (.cons _ (.cons_cons _ (.cons_cons _ .slnil)))))) mixed (by kernel_rfl)<|QM (QL (vs:=[_,_]) rfl QY (.there .here) (.here (.here .nil)) rfl)<|QM (QL (vs:=[_,_]) rfl QY .here (.here (.here .nil)) rfl)<|Jh (vs:=[_,_]) rfl rfl rfl QY rfl (.there (.there (.there .here))) (.cons_cons _ (.cons_cons _ (.cons _ (.cons_cons _ (.cons_cons _ .slnil))))) (fun _ h=>h) (.here (.here .nil)) ⟨rfl,rfl,trivial⟩<|Jh (vs:=[_,_]) rfl rfl rfl QY rfl (.there (.there .here)) (.cons_cons _ (.cons_cons _ (.cons _ (.cons_cons _ (.cons_cons _ .slnil))))) (fun _ h=>h) (.here (.here .nil)) ⟨rfl,rfl,trivial⟩<|Q9<|QC<|QS ?_
    exact JX (⟨g78,g81⟩) rfl (.Jc (c:=[_,_]) rfl QY (.there (.there (.there .here))) (.Jc (c:=[_,_]) rfl QY (.there (.there .here)) .nil)) rfl (fun F ⟨⟨⟨⟨⟨⟨⟨⟨⟨⟨ha,hb⟩,⟨h53,h53p⟩⟩,⟨h58,h58p⟩⟩,⟨⟨h64,h64_⟩,h64p⟩⟩,h69⟩,h72⟩,_⟩,h77⟩,h78⟩,h81⟩=>(by have hd:=(Bl hb0).2 (by rw [← p64.2.2.2];exact(YU _).1 (by simpa using hc));rw [p64.2.2.1] at h78;rw [p64.2.2.2] at h81;rw [hd.1] at h78;rw [hd.2] at h81;exact⟨h78,h81⟩))
   ·
    refine QO<|QC<|QG<|JR (.cons_cons _ (.cons_cons _ (.cons _ (.cons _ (.cons_cons _ (.cons_cons _ .slnil)))))) mixed (by kernel_rfl)<|QM (QL (vs:=[_,_]) rfl QY (.there .here) (.here (.here .nil)) rfl)<|QM (QL (vs:=[_,_]) rfl QY .here (.here (.here .nil)) rfl)<|Jh (vs:=[_,_]) rfl rfl rfl QY rfl (.there (.there (.there .here))) (.cons_cons _ (.cons_cons _ (.cons _ (.cons_cons _ (.cons_cons _ .slnil))))) (fun _ h=>h) (.here (.here .nil)) ⟨rfl,rfl,trivial⟩<|Jh (vs:=[_,_]) rfl rfl rfl QY rfl (.there (.there .here)) (.cons_cons _ (.cons_cons _ (.cons _ (.cons_cons _ (.cons_cons _ .slnil))))) (fun _ h=>h) (.here (.here .nil)) ⟨rfl,rfl,trivial⟩<|Q9<|QC<|QS ?_
    exact JX (⟨g69,g72⟩) rfl (.Jc (c:=[_,_]) rfl QY (.there (.there (.there .here))) (.Jc (c:=[_,_]) rfl QY (.there (.there .here)) .nil)) rfl (fun F ⟨⟨⟨⟨⟨⟨⟨ha,hb⟩,⟨h53,h53p⟩⟩,⟨h58,h58p⟩⟩,⟨⟨h64,h64_⟩,h64p⟩⟩,h69⟩,h72⟩,_⟩=>(by have hd:=(Bl hb0).1 (by rw [← p64.2.2.2];have:=mt (YU _).2 (by simpa using hc);omega);rw [p64.2.2.1] at h69;rw [p64.2.2.2] at h72;rw [hd.1] at h69;rw [hd.2] at h72;exact⟨h69,h72⟩))
theorem Bm {w:World} {F:Gs} {g g':Bg} {a b:Int} (hF:Fits F w) (h:Jq F g a) (h':Jq F g' b) (hb0:0<b) (hza:sz a≤1000000000) (hzb:sz b≤1000000000) :
  RL Tryz.prog 199 [g.v,g'.v] w F (a / b) (a%b):=by
 by_cases hs:g.q.isNone=true∧g'.q.isNone=true∧(g.s != -9223372036854775808)=true
 ·obtain ⟨s,q,n,cap⟩:=g
  obtain ⟨s',q',n',cap'⟩:=g'
  have hp:=h w hF.r
  have hp':=h' w hF.r
  obtain ⟨h1,h2,h3⟩:=hs
  dsimp only at *
  rcases hp.isNone with ⟨rfl,rfl,rfl,rfl,k0,k1⟩ | ⟨_,_,rfl⟩
  ·rcases hp'.isNone with ⟨rfl,rfl,rfl,rfl,k0',k1'⟩ | ⟨_,_,rfl⟩
   ·have hm:s≠-9223372036854775808:=by simpa using h3
    refine(QT.lift (val:=fun(c:Bg×Bg)=>.tuple #[c.1.v,c.2.v]) (R:=fun c w=>YT w c.1.s c.1.q c.1.n c.1.cap (s / s')∧YT w c.2.s c.2.q c.2.n c.2.cap (s%s')) (fun _=>True) (enters_of Tryz.func199 (by rfl) rfl) hF
     ((SD s s' w (by omega) k1 hb0 k1').mono ?_) (fun c w' w'' hs hr=>⟨hr.1.WX hs,hr.2.WX hs⟩)).imp fun c F' hf=>⟨c,rfl,fun F'' hle=>⟨Jq.le (fun w hw=>(hf.1 w hw).1) hle,Jq.le (fun w hw=>(hf.1 w hw).2) hle⟩⟩
    rintro e w' ⟨_,rfl,⟨v,v',rfl,⟨s1,q1,n1,cap1,rfl,hp1⟩,⟨s2,q2,n2,cap2,rfl,hp2⟩⟩,hx⟩
    exact⟨(⟨s1,q1,n1,cap1⟩,⟨s2,q2,n2,cap2⟩),rfl,⟨hp1,hp2⟩,trivial,hx⟩
   ·cases h2
  ·cases h1
 ·refine AV hF h h' hb0 hza hzb fun h1 h2=>?_
  cases hv:(g.s != -9223372036854775808) with
  |false=>rfl
  |true=>exact absurd ⟨h1,h2,hv⟩ hs
end
section
open Go.RowKit Ig
theorem DO {a b:Int} (h:b ∣ a) : -a / -b=a / b:=by
 obtain ⟨c,rfl⟩:=h
 by_cases hb:b=0
 ·subst hb;simp
 ·rw [Int.ediv_neg,← Int.mul_neg,Int.mul_ediv_cancel_left _ hb,Int.mul_ediv_cancel_left _ hb];omega
theorem uC:sz 1≤1000000000:=by decide
theorem j4 {w:World} {F:Gs} {g g':Bg} {a b:Int} (hF:Fits F w) (h:Jq F g a) (h':Jq F g' b) (hb0:b≠0) (hd:b ∣ a) (hza:sz a≤1000000000) (hzb:sz b≤1000000000) :
  Xe Tryz.prog 236 [g.v,g'.v] w F (a / b):=by
 refine QT.intro (G:=fun F=>Jq F g a∧Jq F g' b) Tryz.func236 rfl (by rfl) rfl rfl hF (fun F' hF'=>⟨h.le hF',h'.le hF'⟩)<|QG<|QB ?_
 refine Q5 rfl (vs:=[_,_]) rfl (fun b2=>?_)
 refine Q5 rfl (vs:=[_,_]) rfl (fun b3=>?_)
 refine Qf ZW (fun b4=>?_)
 refine JS_nt<|QG<|J_sr<|QA (QL (vs:=[_,_]) rfl QY (.there .here) (.here (.here .nil)) rfl) ?_
 refine QH rfl (fun w F hF ⟨ha,hb⟩=>DI hF (by assumption)) (fun _=>?_)
 refine QA (QU rfl rfl rfl)<|QE<|QC ?_
 refine QP rfl (fun hc=>?_) (fun hc=>?_)
 ·
  refine Xo 4 subl_r mixed (by kernel_rfl) (by kernel_rfl) ?_
  simp only [List.take_succ_cons,List.take_zero,List.drop_succ_cons,List.drop_zero]
  refine QM (QL (vs:=[_,_]) rfl QY (.there (.there .here)) (.here (.here .nil)) rfl) ?_
  refine Qg rfl (fun w F hF ⟨⟨ha,hb⟩,_⟩=>D5 hF (by assumption)) (fun g11=>?_)
  refine QM (QL (vs:=[_,_]) rfl QY (.there .here) (.here (.here .nil)) rfl) ?_
  refine Qg rfl (fun w F hF ⟨⟨⟨ha,hb⟩,_⟩,h11⟩=>D5 hF (by assumption)) (fun g13=>?_)
  refine K6<|QQ (vs:=[_,_]) rfl rfl rfl QY rfl (.there (.there .here)) (.here (.here .nil)) ⟨rfl,rfl,trivial⟩<|QQ (vs:=[_,_]) rfl rfl rfl QY rfl (.there .here) (.here (.here .nil)) ⟨rfl,rfl,trivial⟩<|JS_nt<|J_sr<|QA (QL (vs:=[_,_]) rfl QY (.there (.there .here)) (.here (.here .nil)) rfl)<|QA (QL (vs:=[_,_]) rfl QY (.there .here) (.here (.here .nil)) rfl) ?_
  refine QH rfl (fun w F hF h9=>Bm hF h9.1.2 h9.2 (by have:=(YU b).1 (by simpa using hc);omega) (by rw [YQ];exact hza) (by rw [YQ];exact hzb)) (fun c17=>?_);rcases c17 with ⟨g17,g17_⟩;dsimp only
  refine JS_mv rfl<|QA (QK rfl rfl)<|QA (QK rfl rfl) ?_
  refine Qf ZW (fun b5=>?_)
  refine Qf ZW (fun b6=>?_)
  refine QQ (vs:=[_,_]) rfl rfl rfl QY rfl (.there .here) (.here (.here .nil)) ⟨rfl,rfl,trivial⟩<|QQ (vs:=[_,_]) rfl rfl rfl QY rfl .here (.here (.here .nil)) ⟨rfl,rfl,trivial⟩<|JS_nt<|J_sr<|QA (QL (vs:=[_,_]) rfl QY (.there .here) (.here (.here .nil)) rfl)<|QQ (vs:=[_,_]) rfl rfl rfl QY rfl (.there (.there .here)) (.here (.here .nil)) ⟨rfl,rfl,trivial⟩<|JS_nt<|QS ?_
  exact QR (_) rfl (.Jc (c:=[_,_]) rfl QY (.there (.there .here)) .nil) rfl (fun F ⟨⟨⟨⟨⟨ha,hb⟩,_⟩,h11⟩,h13⟩,⟨h17,h17_⟩⟩=>(by rw [show -a / -b=a / b from DO hd] at h17;exact h17))
 ·
  refine QO<|QC<|J_sr<|QA (QL (vs:=[_,_]) rfl QY (.there (.there .here)) (.here (.here .nil)) rfl)<|QA (QL (vs:=[_,_]) rfl QY (.there .here) (.here (.here .nil)) rfl) ?_
  refine QH rfl (fun w F hF h9=>Bm hF h9.1.1 h9.1.2 (by have:=mt (YU b).2 (by simpa using hc);omega) hza hzb) (fun c17=>?_);rcases c17 with ⟨g17,g17_⟩;dsimp only
  refine JS_mv rfl<|QA (QK rfl rfl)<|QA (QK rfl rfl) ?_
  refine Qf ZW (fun b5=>?_)
  refine Qf ZW (fun b6=>?_)
  refine QQ (vs:=[_,_]) rfl rfl rfl QY rfl (.there .here) (.here (.here .nil)) ⟨rfl,rfl,trivial⟩<|QQ (vs:=[_,_]) rfl rfl rfl QY rfl .here (.here (.here .nil)) ⟨rfl,rfl,trivial⟩<|JS_nt<|J_sr<|QA (QL (vs:=[_,_]) rfl QY (.there .here) (.here (.here .nil)) rfl)<|QQ (vs:=[_,_]) rfl rfl rfl QY rfl (.there (.there .here)) (.here (.here .nil)) ⟨rfl,rfl,trivial⟩<|JS_nt<|QS ?_
  exact QR (_) rfl (.Jc (c:=[_,_]) rfl QY (.there (.there .here)) .nil) rfl (fun F h9=>h9.2.1)
theorem Ll (x:Int) (h:Nr x≠0):x≠0:=by rintro rfl;exact h rfl
theorem Lm (x:Int) (h:Nr x=0):x=0:=by unfold Nr at h;split at h<;>(try split at h)<;>omega
structure dB (a b:Int) where
 x:Int
 y:Int
 gx:Bg
 gy:Bg
 hx:0≤x
 hy:0≤y
 hg:Int.gcd x y=Int.gcd a b
 sx:sz x≤1000000000
 sy:sz y≤1000000000
theorem xP {w:World} {F:Gs} {g g':Bg} {a b:Int} (hF:Fits F w) (h:Jq F g a) (h':Jq F g' b) (hza:sz a≤1000000000) (hzb:sz b≤1000000000) :
  Xe Tryz.prog 163 [g.v,g'.v] w F (Int.gcd a b):=by
 refine QT.intro (G:=fun F=>Jq F g a∧Jq F g' b) Tryz.func163 rfl (by rfl) rfl rfl hF (fun F' hF'=>⟨h.le hF',h'.le hF'⟩)<|QG<|QB ?_
 refine Q5 rfl (vs:=[_,_]) rfl (fun b2=>?_)
 refine Q5 rfl (vs:=[_,_]) rfl (fun b3=>?_)
 refine Qf ZW (fun b4=>?_)
 refine JS_nt<|QG<|Xo 4 subl_r mixed (by kernel_rfl) (by kernel_rfl) ?_
 simp only [List.take_succ_cons,List.take_zero,List.drop_succ_cons,List.drop_zero]
 refine QM (QL (vs:=[_,_]) rfl QY (.there (.there .here)) (.here (.here .nil)) rfl) ?_
 refine Qg rfl (fun w F hF ⟨ha,hb⟩=>xg hF (by assumption)) (fun g8=>?_)
 refine QM (QL (vs:=[_,_]) rfl QY (.there .here) (.here (.here .nil)) rfl) ?_
 refine Qg rfl (fun w F hF ⟨⟨ha,hb⟩,h8⟩=>xg hF (by assumption)) (fun g10=>?_)
 refine K6<|QQ (vs:=[_,_]) rfl rfl rfl QY rfl (.there (.there .here)) (.here (.here .nil)) ⟨rfl,rfl,trivial⟩<|QQ (vs:=[_,_]) rfl rfl rfl QY rfl (.there .here) (.here (.here .nil)) ⟨rfl,rfl,trivial⟩<|JS_nt<|QG<|QX ?_
 refine Xa (ι:=dB a b) (fun i=>[(2,.pointer (some ⟨b2,0,none⟩)),(3,.pointer (some ⟨b3,0,none⟩)),(4,.pointer (some ⟨b4,0,none⟩))]) (fun i=>[(b4,.cells #[.int .i64 0,.slice none 0 0] 128 (0,0)),(b3,.cells #[.int .i64 i.gy.s,.slice i.gy.q i.gy.n i.gy.cap] 128 (0,0)),(b2,.cells #[.int .i64 i.gx.s,.slice i.gx.q i.gx.n i.gx.cap] 128 (0,0))])
  (fun i F=>Jq F i.gx i.x∧Jq F i.gy i.y) (fun i=>i.y.toNat) ⟨Je a,Je b,g8,g10,by rw [KC];omega,by rw [KC];omega,by rw [KC,KC];rfl,by rw [Er];exact hza,by rw [Er];exact hzb⟩ ⟨rfl,rfl,rfl,trivial⟩ subl_r (fun _ ⟨⟨_,h8⟩,h10⟩=>⟨h8,h10⟩) (fun i=>?_)
 refine QG<|J_sr<|QA (QL (vs:=[_,_]) rfl QY (.there .here) (.here (.here .nil)) rfl) ?_
 refine QH rfl (fun w F hF ⟨hX,hY⟩=>DI hF (by assumption)) (fun _=>?_)
 refine QA (QU rfl rfl rfl)<|QE<|QC ?_
 refine QP rfl (fun hc=>?_) (fun hc=>?_)
 ·
  refine QO<|QC<|QX<|J_sr<|QA (QL (vs:=[_,_]) rfl QY (.there (.there .here)) (.here (.here .nil)) rfl)<|QA (QL (vs:=[_,_]) rfl QY (.there .here) (.here (.here .nil)) rfl) ?_
  refine QH rfl (fun w F hF h9=>Bm hF h9.1.1 h9.1.2 (by have:=i.hy;have:=Ll i.y (by simpa using hc);omega) i.sx i.sy) (fun c17=>?_);rcases c17 with ⟨g17,g17_⟩;dsimp only
  refine JS_mv rfl<|QA (QK rfl rfl)<|QA (QK rfl rfl) ?_
  refine Qf ZW (fun b5=>?_)
  refine Qf ZW (fun b6=>?_)
  refine QQ (vs:=[_,_]) rfl rfl rfl QY rfl (.there .here) (.here (.here .nil)) ⟨rfl,rfl,trivial⟩<|QQ (vs:=[_,_]) rfl rfl rfl QY rfl .here (.here (.here .nil)) ⟨rfl,rfl,trivial⟩<|JS_nt<|Xo 3 (.cons_cons _ (.cons_cons _ (.cons_cons _ (.cons_cons _ (.cons _ .slnil))))) mixed (by kernel_rfl) (by kernel_rfl) ?_
  simp only [List.take_succ_cons,List.take_zero,List.drop_succ_cons,List.drop_zero]
  refine QM (QL (vs:=[_,_]) rfl QY (.there (.there (.there .here))) (.here (.here .nil)) rfl)<|QM (QL (vs:=[_,_]) rfl QY .here (.here (.here .nil)) rfl)<|Jh (vs:=[_,_]) rfl rfl rfl QY rfl (.there (.there (.there (.there .here)))) (.cons_cons _ (.cons_cons _ (.cons_cons _ (.cons_cons _ .slnil)))) (fun _ h=>h) (.here (.here .nil)) ⟨rfl,rfl,trivial⟩<|K6<|QQ (vs:=[_,_]) rfl rfl rfl QY rfl (.there (.there (.there .here))) (.here (.here .nil)) ⟨rfl,rfl,trivial⟩<|QE<|Qk ?_
  have hy0:0<i.y:=by have:=i.hy;have:=Ll i.y (by simpa using hc);omega
  have hm0:=Int.emod_nonneg i.x (by omega:i.y≠0)
  have hm1:=Int.emod_lt_of_pos i.x hy0
  refine Ql (⟨i.y,i.x%i.y,i.gy,g17_,i.hy,hm0,by rw [← i.hg,Int.gcd_comm,Int.emod_def];first | rw [Int.gcd_sub_mul_left_left] | rw [Int.gcd_sub_mul_right_left] | rw [Int.gcd_sub_mul_left_right],i.sy,Nat.le_trans (Am hy0) i.sy⟩:dB a b) (by show(i.x%i.y).toNat<i.y.toNat;omega) ⟨rfl,rfl,rfl,trivial⟩ (.cons _ (.cons _ subl_r)) (fun _ ⟨⟨⟨_,hY⟩,_⟩,⟨_,h17⟩⟩=>⟨hY,h17⟩)
 ·
  refine Qy ?_
  repeat (first | refine QZ ?_ | refine QV (by rfl) ?_)
  refine Qa<|QC<|J_sr<|QA (QL (vs:=[_,_]) rfl QY (.there (.there .here)) (.here (.here .nil)) rfl)<|QQ (vs:=[_,_]) rfl rfl rfl QY rfl .here (.here (.here .nil)) ⟨rfl,rfl,trivial⟩<|JS_nt<|QS ?_
  exact QR (_) rfl (.Jc (c:=[_,_]) rfl QY .here .nil) rfl (fun F h9=>(by have h0:i.y=0:=Lm i.y (by simpa using hc);have e:=i.hg;rw [h0,Int.gcd_zero_right] at e;rw [← e,Int.natAbs_of_nonneg i.hx];exact h9.1.1))
end
section
open Go.RowKit Ig
theorem Hg (a:Int):∀ e:Nat,sz (a^e)≤e*sz a+1
 |0=>by simp;decide
 |e+1=>by
  rw [Int.pow_succ]
  have:=Vo (a^e) a
  have:=Hg a e
  rw [Nat.add_mul];omega
structure yW (K:Nat) where
 k:Int
 e:Nat
 p:Nat
 go:Bg
 gx:Bg
 hk:0≤k
 hK:k≤9223372036854775807
 hp:1≤p
 h:e+p*k.toNat=K
structure yV (K p:Nat) (k:Int) where
 e:Nat
 go:Bg
 h:e+p*(2*(k.toNat / 2))=K
theorem Rh {a:Int} {K e:Nat} (he:e≤K) (h:K*sz a≤500000000):sz (a^e)≤1000000000:=by
 have h1:=Hg a e
 have h2:=Nat.mul_le_mul_right (sz a) he
 omega
theorem TD {w:World} {F:Gs} {g:Bg} {a k:Int} (hF:Fits F w) (h:Jq F g a) (hk:0≤k) (hK:k≤9223372036854775807) (hz:k.toNat*sz a≤500000000) :
  Xe Tryz.prog 170 [g.v,.int .i64 k] w F (a^k.toNat):=by
 refine QT.intro (G:=fun F=>Jq F g a) Tryz.func170 rfl (by rfl) rfl rfl hF (fun F' hF'=>h.le hF')<|J_sr<|Q5 rfl (vs:=[_,_]) rfl (fun b2=>Qf ZW (fun b4=>JS_nt<|J_sr<|QH rfl (fun w F hF ha=>M9 hF (by omega) (by omega)) (fun g6=>Qf ZW (fun b5=>QQ (vs:=[_,_]) rfl rfl rfl QY rfl .here (.here (.here .nil)) ⟨rfl,rfl,trivial⟩<|JS_nt<|QG<|QX ?_))))
 refine Xa (ι:=yW k.toNat) (fun i=>[(1,.int .i64 i.k),(2,.pointer (some ⟨b2,0,none⟩)),(4,.pointer (some ⟨b4,0,none⟩)),(5,.pointer (some ⟨b5,0,none⟩))]) (fun i=>[(b5,.cells #[.int .i64 i.go.s,.slice i.go.q i.go.n i.go.cap] 128 (0,0)),(b4,.cells #[.int .i64 0,.slice none 0 0] 128 (0,0)),(b2,.cells #[.int .i64 i.gx.s,.slice i.gx.q i.gx.n i.gx.cap] 128 (0,0))])
  (fun i F=>Jq F i.go (a^i.e)∧Jq F i.gx (a^i.p)) (fun i=>i.k.toNat) ⟨k,0,1,g6,g,hk,hK,Nat.le_refl _,by simp⟩ ⟨rfl,rfl,rfl,rfl,trivial⟩ subl_r (fun _ ⟨h1,h6⟩=>⟨by simpa using h6,by show Jq _ _ (a^1);rw [Int.pow_succ,Int.pow_zero,Int.one_mul];exact h1⟩) (fun i=>?_)
 refine QG<|J_sr<|JS_mv rfl<|QA (QU rfl rfl rfl)<|QE<|QC ?_
 refine QP rfl (fun hc=>?_) (fun hc=>?_)
 ·
  refine QO<|QC<|QG<|QX ?_
  have hk0:0<i.k:=by simpa using hc
  have hpk:i.p≤k.toNat:=by have:=i.h;have:=Nat.mul_le_mul_left i.p (show 1≤i.k.toNat by omega);omega
  have hik:=i.hk;have hiK:=i.hK
  refine Kj (ι:=yV k.toNat i.p i.k) (fun j=>[(1,.int .i64 i.k),(2,.pointer (some ⟨b2,0,none⟩)),(4,.pointer (some ⟨b4,0,none⟩)),(5,.pointer (some ⟨b5,0,none⟩))]) (fun j=>[(b5,.cells #[.int .i64 j.go.s,.slice j.go.q j.go.n j.go.cap] 128 (0,0)),(b4,.cells #[.int .i64 0,.slice none 0 0] 128 (0,0)),(b2,.cells #[.int .i64 i.gx.s,.slice i.gx.q i.gx.n i.gx.cap] 128 (0,0))])
   (fun j F=>Jq F j.go (a^j.e)∧Jq F i.gx (a^i.p)) ?_ ?_
  ·
   refine J_sr<|JS_mv rfl<|QA (zG rfl rfl (by omega))<|QA (QU rfl rfl rfl)<|QE<|QC ?_
   refine QP rfl (fun hc=>?_) (fun hc=>?_)
   ·
    refine QB<|QA (QL (vs:=[_,_]) rfl QY .here (.here (.here .nil)) rfl)<|QA (QL (vs:=[_,_]) rfl QY (.there (.there .here)) (.here (.here .nil)) rfl)<|QH rfl (fun w F hF h9=>G8 hF h9.1 h9.2 (Rh (by have:=i.h;omega) hz) (Rh hpk hz)) (fun g16=>QQ (vs:=[_,_]) rfl rfl rfl QY rfl .here (.here (.here .nil)) ⟨rfl,rfl,trivial⟩<|QE ?_)
    have hodd:i.k%2=1:=by simpa using hc
    refine XE (⟨i.e+i.p,g16,by have:=i.h;have e:i.k.toNat=2*(i.k.toNat / 2)+1:=(by omega);rw [e,Nat.mul_add] at this;omega⟩:yV k.toNat i.p i.k) ⟨rfl,rfl,rfl,rfl,trivial⟩ subl_r (fun _ ⟨⟨_,hX⟩,h16⟩=>⟨by show Jq _ _ (a^(i.e+i.p));rw [Int.pow_add];exact h16,hX⟩)
   ·
    refine QO ?_
    have hev:i.k%2=0:=by have:i.k%2≠1:=(by simpa using hc);omega
    refine XE (⟨i.e,i.go,by have:=i.h;have e:i.k.toNat=2*(i.k.toNat / 2):=(by omega);rw [← e];exact this⟩:yV k.toNat i.p i.k) ⟨rfl,rfl,rfl,rfl,trivial⟩ subl_r (fun _ h=>h)
  ·intro j
   refine J_sr<|JS_mv rfl<|QA (QU rfl rfl rfl)<|QE<|QC ?_
   refine QP rfl (fun hc=>?_) (fun hc=>?_)
   ·
    refine QB<|QA (QL (vs:=[_,_]) rfl QY (.there (.there .here)) (.here (.here .nil)) rfl)<|QA (QL (vs:=[_,_]) rfl QY (.there (.there .here)) (.here (.here .nil)) rfl)<|QH rfl (fun w F hF h9=>G8 hF h9.2 h9.2 (Rh hpk hz) (Rh hpk hz)) (fun g21=>QQ (vs:=[_,_]) rfl rfl rfl QY rfl (.there (.there .here)) (.here (.here .nil)) ⟨rfl,rfl,trivial⟩<|QE<|Qk<|QC<|QB<|JS_mv rfl<|QA (L0 rfl rfl)<|JS_as rfl<|QE ?_)
    have hk2:(i.k / 2).toNat=i.k.toNat / 2:=by omega
    refine Ql (⟨i.k / 2,j.e,i.p+i.p,j.go,g21,by omega,by omega,by have:=i.hp;omega,by rw [hk2];have:=j.h;rw [Nat.mul_left_comm] at this;rw [Nat.add_mul];omega⟩:yW k.toNat) (by show(i.k / 2).toNat<i.k.toNat;omega) ⟨rfl,rfl,rfl,rfl,trivial⟩ subl_r (fun _ ⟨⟨hO,_⟩,h21⟩=>⟨hO,by show Jq _ _ (a^(i.p+i.p));rw [Int.pow_add];exact h21⟩)
   ·
    refine QO<|Qk<|QC<|QB<|JS_mv rfl<|QA (L0 rfl rfl)<|JS_as rfl<|QE ?_
    have hk1:i.k=1:=by have:¬ 1<i.k:=(by simpa using hc);omega
    have hk2:(i.k / 2).toNat=i.k.toNat / 2:=by omega
    refine Ql (⟨i.k / 2,j.e,i.p,j.go,i.gx,by omega,by omega,i.hp,by rw [hk2];have:=j.h;have h0:i.k.toNat / 2=0:=(by omega);rw [h0] at this ⊢;simpa using this⟩:yW k.toNat) (by show(i.k / 2).toNat<i.k.toNat;omega) ⟨rfl,rfl,rfl,rfl,trivial⟩ subl_r (fun _ h=>h)
 ·
  refine Qy ?_
  repeat (first | refine QZ ?_ | refine QV (by rfl) ?_)
  refine Qa<|QC<|J_sr<|QA (QL (vs:=[_,_]) rfl QY .here (.here (.here .nil)) rfl)<|QQ (vs:=[_,_]) rfl rfl rfl QY rfl (.there .here) (.here (.here .nil)) ⟨rfl,rfl,trivial⟩<|JS_nt<|QS ?_
  exact QR (_) rfl (.Jc (c:=[_,_]) rfl QY (.there .here) .nil) rfl (fun F h9=>(by have h0:i.k.toNat=0:=(by have:¬ 0<i.k:=(by simpa using hc);omega);have e:=i.h;rw [h0] at e;have e2:i.e=k.toNat:=(by simpa using e);have e3:=congrArg (fun n=>Jq F i.go (a^n)) e2;exact cast e3 h9.1))
end
section
open Go.RowKit Ig
structure Fr where
 n:Bg
 d:Bg
@[reducible] def Fr.v (x:Fr):Value:=.agg #[.int .i64 x.n.s,.slice x.n.q x.n.n x.n.cap,.int .i64 x.d.s,.slice x.d.q x.d.n x.d.cap]
def JV (F:Gs) (x:Fr) (r:Rat):Prop:=Jq F x.n r.num∧Jq F x.d r.den
theorem JV.le {F F':Gs} {x:Fr} {r:Rat} (h:JV F x r) (k:Gs.le F F'):JV F' x r:=⟨h.1.le k,h.2.le k⟩
abbrev ZE (P:Program) (f:FuncId) (args:List Value) (w:World) (F:Gs) (r:Rat):Prop:=QT P f args w F Fr.v (fun x F=>JV F x r)
def JO (r:Rat):Nat:=max (sz r.num) (sz (r.den:Int))
theorem Ji (r:Rat):sz r.num≤JO r:=Nat.le_max_left _ _
theorem Jd (r:Rat):sz (r.den:Int)≤JO r:=Nat.le_max_right _ _
theorem den_pos (r:Rat):(0:Int)<r.den:=by have:=r.den_pos;omega
theorem YT.one {w:World} {s:Int} {q:Option Addr} {n cap:Nat} {z:Int} (h:YT w s q n cap z):(q.isNone=true→(s==1)=decide (z=1))∧(q.isNone=false→decide (z=1)=false):=by
 rcases h with ⟨rfl,rfl,rfl,rfl,_⟩ | ⟨b,off,l,rfl,_,_,_,_,_,_,_,h,hz,hb⟩
 ·exact⟨fun _=>by rw [Bool.eq_iff_iff];simp,fun h=>(by cases h)⟩
 ·refine⟨fun h=>(by cases h),fun _=>?_⟩
  rcases h with rfl | rfl<;>simp<;>omega
structure ux (a b:Int) where
 x:Int
 y:Int
 gx:Bg
 gy:Bg
 hy:0<y
 e:Rat.divInt x y=Rat.divInt a b
 sx:sz x≤1000000000
 sy:sz y≤1000000000
theorem AZ (x:Int):(Rat.divInt x 1).num=x∧(Rat.divInt x 1).den=1:=by
 rw [Rat.num_divInt,Rat.den_divInt];simp
theorem WM {x y:Int} (h:0<y):(Int.gcd x y:Int)≠0:=by
 have:Int.gcd x y≠0:=by rw [Ne,Int.gcd_eq_zero_iff];omega
 omega
theorem Tu {x y:Int} (h:0<y):sz (Int.gcd x y:Int)≤sz y:=by
 apply KF
 have:=Int.gcd_le_right x h
 omega
theorem Kv {x y:Int} (h:0<y):(Rat.divInt x y).num=x / (Int.gcd x y:Int)∧((Rat.divInt x y).den:Int)=y / (Int.gcd x y:Int):=by
 rw [Rat.num_divInt,Rat.den_divInt,if_neg (by omega),Int.sign_eq_one_of_pos h,Int.one_mul,Int.gcd_comm y x]
 refine⟨rfl,?_⟩
 rw [Int.natCast_ediv,Int.natAbs_of_nonneg (by omega)]
theorem NG {w:World} {F:Gs} {g g':Bg} {a b:Int} (hF:Fits F w) (h:Jq F g a) (h':Jq F g' b) (hb0:b≠0) (hza:sz a≤1000000000) (hzb:sz b≤1000000000) :
  ZE Tryz.prog 173 [g.v,g'.v] w F (Rat.divInt a b):=by
 refine QT.intro (G:=fun F=>Jq F g a∧Jq F g' b) Tryz.func173 rfl (by rfl) rfl rfl hF (fun F' hF'=>⟨h.le hF',h'.le hF'⟩)<|QG<|QB ?_
 refine Q5 rfl (vs:=[_,_]) rfl (fun b2=>?_)
 refine Q5 rfl (vs:=[_,_]) rfl (fun b3=>?_)
 refine Qf Xp (fun b4=>?_)
 refine QE<|QC ?_
 refine Kj (ι:=ux a b) (fun i=>[(2,.pointer (some ⟨b2,0,none⟩)),(3,.pointer (some ⟨b3,0,none⟩)),(4,.pointer (some ⟨b4,0,none⟩))]) (fun i=>[(b4,.cells #[.int .i64 0,.slice none 0 0,.int .i64 0,.slice none 0 0] 130 (0,0)),(b3,.cells #[.int .i64 i.gy.s,.slice i.gy.q i.gy.n i.gy.cap] 128 (0,0)),(b2,.cells #[.int .i64 i.gx.s,.slice i.gx.q i.gx.n i.gx.cap] 128 (0,0))]) (fun i F=>Jq F i.gx i.x∧Jq F i.gy i.y) ?_ ?_
 ·
  refine J_sr<|QA (QL (vs:=[_,_]) rfl QY (.there .here) (.here (.here .nil)) rfl) ?_
  refine QH rfl (fun w F hF ⟨ha,hb⟩=>DI hF (by assumption)) (fun _=>?_)
  refine QA (QU rfl rfl rfl)<|QE<|QC ?_
  refine QP rfl (fun hc=>?_) (fun hc=>?_)
  ·
   refine Xo 4 subl_r mixed (by kernel_rfl) (by kernel_rfl) ?_
   simp only [List.take_succ_cons,List.take_zero,List.drop_succ_cons,List.drop_zero]
   refine QM (QL (vs:=[_,_]) rfl QY (.there (.there .here)) (.here (.here .nil)) rfl) ?_
   refine Qg rfl (fun w F hF ⟨⟨ha,hb⟩,_⟩=>D5 hF (by assumption)) (fun g10=>?_)
   refine QM (QL (vs:=[_,_]) rfl QY (.there .here) (.here (.here .nil)) rfl) ?_
   refine Qg rfl (fun w F hF ⟨⟨⟨ha,hb⟩,_⟩,h10⟩=>D5 hF (by assumption)) (fun g12=>?_)
   refine K6<|QQ (vs:=[_,_]) rfl rfl rfl QY rfl (.there (.there .here)) (.here (.here .nil)) ⟨rfl,rfl,trivial⟩<|QQ (vs:=[_,_]) rfl rfl rfl QY rfl (.there .here) (.here (.here .nil)) ⟨rfl,rfl,trivial⟩<|QE ?_
   have hb1:b<0:=(YU b).1 (by simpa using hc)
   exact XE (⟨-a,-b,g10,g12,by omega,Rat.neg_divInt_neg a b,by rw [YQ];exact hza,by rw [YQ];exact hzb⟩:ux a b) ⟨rfl,rfl,rfl,trivial⟩ subl_r (fun _ ⟨⟨_,h10⟩,h12⟩=>⟨h10,h12⟩)
  ·
   refine QO ?_
   have hb1:¬ b<0:=mt (YU b).2 (by simpa using hc)
   exact XE (⟨a,b,g,g',by omega,rfl,hza,hzb⟩:ux a b) ⟨rfl,rfl,rfl,trivial⟩ subl_r (fun _ h=>h.1)
 ·intro i
  refine QG ?_
  refine X3 _ (fun w F hF h9=>(h9.2 w hF.r).one) (fun p1=>?_)
  refine VR 20 (.bool (decide (i.y=1))) ?_ ?_
  ·
   refine QB<|QA (QI rfl Gg KX)<|QA (Qo rfl KX (.there .here) (.skip (.here .nil)))<|QA (Vx rfl rfl YR)<|JS_mv rfl ?_
   refine Qn (t:=16) rfl (fun hb16=>?_) (fun hb16=>?_)
   ·
    refine QJ rfl rfl<|QA (QI rfl Bi Qs)<|QJ rfl rfl<|QA (Qo rfl Qs (.there .here) (.here .nil))<|QJ rfl rfl<|QA (QU rfl rfl rfl)<|QA (Qj rfl rfl rfl)<|QE ?_
    exact Jo (exd 9 rfl rfl) (congrArg (fun b=>some (Value.bool b)) (p1.1 hb16)) subl_r (fun _ h=>h)
   ·
    refine QN rfl rfl rfl<|QN rfl rfl rfl<|QN rfl rfl rfl<|QA (Qh rfl rfl rfl)<|QE ?_
    exact Jo (exd 9 rfl rfl) (congrArg (fun b=>some (Value.bool b)) (p1.2 hb16).symm) subl_r (fun _ h=>h)
  ·
   refine QP rfl (fun hc=>?_) (fun hc=>?_)
   ·
    refine J_sr<|QA (QL (vs:=[_,_]) rfl QY (.there (.there .here)) (.here (.here .nil)) rfl)<|QA (QL (vs:=[_,_]) rfl QY (.there .here) (.here (.here .nil)) rfl)<|QA (Q6 rfl Hl Xp (.cons (vs:=[_,_]) rfl rfl rfl (.here (.here .nil)) (.cons (vs:=[_,_]) rfl rfl rfl (.skip (.skip (.here (.here .nil)))) .nil)))<|QQ (vs:=[_,_,_,_]) rfl rfl rfl Qe rfl .here (.here (.here (.here (.here .nil)))) ⟨rfl,rfl,rfl,rfl,trivial⟩<|JS_nt<|QS ?_
    exact QR (⟨i.gx,i.gy⟩) rfl (.Jc (c:=[_,_,_,_]) rfl Qe .here .nil) rfl (fun F ⟨ha,hb⟩=>(by have h1:i.y=1:=(by simpa using hc);have e:=AZ i.x;rw [← i.e,h1];exact⟨by rw [e.1];exact ha,by rw [e.2];have hb1:=hb;rw [h1] at hb1;exact hb1⟩))
   ·
    refine QO<|QC<|J_sr<|QA (QL (vs:=[_,_]) rfl QY (.there (.there .here)) (.here (.here .nil)) rfl)<|QA (QL (vs:=[_,_]) rfl QY (.there .here) (.here (.here .nil)) rfl) ?_
    refine QH rfl (fun w F hF h9=>xP hF h9.1 h9.2 i.sx i.sy) (fun g26=>?_)
    refine Qf ZW (fun b5=>?_)
    refine QQ (vs:=[_,_]) rfl rfl rfl QY rfl .here (.here (.here .nil)) ⟨rfl,rfl,trivial⟩<|JS_nt<|QG<|JR (.cons_cons _ (.cons _ (.cons_cons _ (.cons_cons _ .slnil)))) mixed (by kernel_rfl)<|QM (QL (vs:=[_,_]) rfl QY (.there (.there .here)) (.here (.here .nil)) rfl)<|QM (QL (vs:=[_,_]) rfl QY .here (.here (.here .nil)) rfl) ?_
    refine Qg rfl (fun w F hF h9=>j4 hF h9.1.1 h9.2 (WM i.hy) (Int.gcd_dvd_left ..) i.sx (Nat.le_trans (Tu i.hy) i.sy)) (fun g29=>?_)
    refine QM (QL (vs:=[_,_]) rfl QY (.there .here) (.here (.here .nil)) rfl)<|QM (QL (vs:=[_,_]) rfl QY .here (.here (.here .nil)) rfl) ?_
    refine Qg rfl (fun w F hF h9=>j4 hF h9.1.1.2 h9.1.2 (WM i.hy) (Int.gcd_dvd_right ..) i.sy (Nat.le_trans (Tu i.hy) i.sy)) (fun g32=>?_)
    refine QM (Q6 rfl Hl Xp (.cons (vs:=[_,_]) rfl rfl rfl (.here (.here .nil)) (.cons (vs:=[_,_]) rfl rfl rfl (.skip (.skip (.here (.here .nil)))) .nil)))<|Jh (vs:=[_,_,_,_]) rfl rfl rfl Qe rfl (.there .here) (.cons_cons _ (.cons_cons _ (.cons_cons _ .slnil))) (fun _ h=>h.1.1) (.here (.here (.here (.here .nil)))) ⟨rfl,rfl,rfl,rfl,trivial⟩<|Q9<|QC<|QS ?_
    exact QR (⟨g29,g32⟩) rfl (.Jc (c:=[_,_,_,_]) rfl Qe (.there .here) .nil) rfl (fun F h9=>(by have e:=Kv (x:=i.x) i.hy;rw [← i.e];exact⟨by rw [e.1];exact h9.1.2,by rw [e.2];exact h9.2⟩))
theorem BB {w:World} {F:Gs} {g:Bg} {a:Int} (hF:Fits F w) (h:Jq F g a):ZE Tryz.prog 110 [g.v] w F (a:Rat):=by
 refine QT.intro (G:=fun F=>Jq F g a) Tryz.func110 rfl (by rfl) rfl rfl hF (fun F' hF'=>h.le hF')<|QG<|QB ?_
 refine Q5 rfl (vs:=[_,_]) rfl (fun b1=>?_)
 refine Qf Xp (fun b2=>?_)
 refine JS_nt<|QG<|JR (.cons _ (.cons_cons _ .slnil)) mixed (by kernel_rfl)<|QM (QL (vs:=[_,_]) rfl QY .here (.here (.here .nil)) rfl) ?_
 refine Qg rfl (fun w F hF ha=>M9 hF (by omega) (by omega)) (fun g4=>?_)
 refine QM (Q6 rfl Hl Xp (.cons (vs:=[_,_]) rfl rfl rfl (.here (.here .nil)) (.cons (vs:=[_,_]) rfl rfl rfl (.skip (.skip (.here (.here .nil)))) .nil)))<|Jh (vs:=[_,_,_,_]) rfl rfl rfl Qe rfl .here (.cons_cons _ .slnil) (fun _ h=>h.1) (.here (.here (.here (.here .nil)))) ⟨rfl,rfl,rfl,rfl,trivial⟩<|Q9<|QC<|QS ?_
 exact QR (⟨g,g4⟩) rfl (.Jc (c:=[_,_,_,_]) rfl Qe .here .nil) rfl (fun F h9=>⟨h9.1,h9.2⟩)
theorem dK {w:World} {F:Gs} {n:Int} (hF:Fits F w) (h0 : -9223372036854775808≤n) (h1:n≤9223372036854775807):ZE Tryz.prog 188 [.int .i64 n] w F (n:Rat):=by
 refine QT.intro (G:=fun F=>True) Tryz.func188 rfl (by rfl) rfl rfl hF (fun F' hF'=>trivial)<|QG<|QB ?_
 refine Qf Xp (fun b2=>?_)
 refine JS_nt<|J_sr<|JS_mv rfl ?_
 refine QH rfl (fun w F hF _=>M9 hF (by omega) (by omega)) (fun g4=>?_)
 refine QH rfl (fun w F hF ⟨_,h4⟩=>BB hF (by assumption)) (fun x5=>?_)
 refine QQ (vs:=[_,_,_,_]) rfl rfl rfl Qe rfl .here (.here (.here (.here (.here .nil)))) ⟨rfl,rfl,rfl,rfl,trivial⟩<|JS_nt<|QS ?_
 exact QR (_) rfl (.Jc (c:=[_,_,_,_]) rfl Qe .here .nil) rfl (fun F ⟨⟨_,h4⟩,⟨h5,h5_⟩⟩=>⟨‹_›,‹_›⟩)
theorem Gf {w:World} {F:Gs} {x:Fr} {r:Rat} (hF:Fits F w) (h:JV F x r):Qc Tryz.prog 132 [x.v] w F (.int .i64 (Nr r.num)):=by
 refine QT.intro (G:=fun F=>JV F x r) Tryz.func132 rfl (by rfl) rfl rfl hF (fun F' hF'=>h.le hF')<|QG<|QB ?_
 refine Q5 rfl (vs:=[_,_,_,_]) rfl (fun b1=>?_)
 refine JS_as rfl<|JS_nt<|J_sr<|QA (QI rfl ZJ QY)<|QA (QL (vs:=[_,_]) rfl QY .here (.here (.here .nil)) rfl) ?_
 refine QH rfl (fun w F hF h9=>DI (g:=x.n) hF h9.1) (fun _=>?_)
 refine JS_as rfl<|JS_nt<|QS ?_
 exact F_r1 rfl rfl rfl (fun F h9=>trivial)
theorem DU {w:World} {F:Gs} {x:Fr} {r:Rat} (hF:Fits F w) (h:JV F x r):Qc Tryz.prog 166 [x.v] w F (.bool (decide ((r.den:Int)=1))):=by
 refine QT.intro (G:=fun F=>JV F x r) Tryz.func166 rfl (by rfl) rfl rfl hF (fun F' hF'=>h.le hF') ?_
 refine X3 _ (fun w F hF h=>(h.2 w hF.r).one) (fun p1=>?_)
 refine QG<|QB ?_
 refine Q5 rfl (vs:=[_,_,_,_]) rfl (fun b1=>?_)
 refine JS_as rfl<|JS_nt<|J_sr<|QA (QI rfl ZI QY)<|QA (QI rfl Gg KX)<|QA (Qo rfl KX .here (.skip (.skip (.skip (.here .nil)))))<|QA (Vx rfl rfl YR)<|JS_mv rfl ?_
 refine Qn (t:=7) rfl (fun hb7=>?_) (fun hb7=>?_)
 ·
  refine QJ rfl rfl<|QA (QI rfl ZI QY)<|QJ rfl rfl<|QA (QI rfl Bi Qs)<|QJ rfl rfl<|QA (Qo rfl Qs .here (.skip (.skip (.here .nil))))<|QJ rfl rfl<|QA (QU rfl rfl rfl)<|QA (Qj rfl rfl rfl)<|JS_as rfl<|JS_nt<|QS ?_
  exact F_r1 rfl rfl (by show Value.bool _=Value.bool _;rw [← p1.1 hb7];first | rfl | skip) (fun F _=>trivial)
 ·
  refine QN rfl rfl rfl<|QN rfl rfl rfl<|QN rfl rfl rfl<|QN rfl rfl rfl<|QA (Qh rfl rfl rfl)<|JS_as rfl<|JS_nt<|QS ?_
  exact F_r1 rfl rfl (congrArg Value.bool (p1.2 hb7)) (fun F _=>trivial)
theorem zt {w:World} {F:Gs} {x:Fr} {r:Rat} (hF:Fits F w) (h:JV F x r):ZE Tryz.prog 200 [x.v] w F (-r):=by
 refine QT.intro (G:=fun F=>JV F x r) Tryz.func200 rfl (by rfl) rfl rfl hF (fun F' hF'=>h.le hF')<|QG<|QB ?_
 refine Q5 rfl (vs:=[_,_,_,_]) rfl (fun b1=>?_)
 refine Qf Xp (fun b2=>?_)
 refine JS_nt<|QG<|JR (.cons _ (.cons_cons _ .slnil)) mixed (by kernel_rfl)<|QM (QI rfl ZJ QY)<|QM (QL (vs:=[_,_]) rfl QY .here (.here (.here .nil)) rfl) ?_
 refine Qg rfl (fun w F hF h9=>D5 (g:=x.n) hF h9.1) (fun g5=>?_)
 refine QM (QI rfl ZI QY)<|QM (QL (vs:=[_,_]) rfl QY .here (.skip (.skip (.here (.here .nil)))) rfl)<|QM (Q6 rfl Hl Xp (.cons (vs:=[_,_]) rfl rfl rfl (.here (.here .nil)) (.cons (vs:=[_,_]) rfl rfl rfl (.skip (.skip (.here (.here .nil)))) .nil)))<|Jh (vs:=[_,_,_,_]) rfl rfl rfl Qe rfl .here (.cons_cons _ .slnil) (fun _ h=>h.1) (.here (.here (.here (.here .nil)))) ⟨rfl,rfl,rfl,rfl,trivial⟩<|Q9<|QC<|QS ?_
 exact QR (⟨g5,x.d⟩) rfl (.Jc (c:=[_,_,_,_]) rfl Qe .here .nil) rfl (fun F h9=>⟨h9.2,h9.1.2⟩)
end
section
open Go.RowKit Ig
@[reducible] def tx (l:List UInt8):Value:=.string ⟨l.toArray⟩
theorem YL (l:List UInt8):(⟨l.toArray⟩:ByteArray).size=l.length:=by simp [ByteArray.size]
theorem GR (l:List UInt8):(⟨l.toArray⟩:ByteArray).toList=l:=by rw [ByteArray.toList_eq]
theorem Fg (a b:List UInt8):(⟨a.toArray⟩++⟨b.toArray⟩:ByteArray)=⟨(a++b).toArray⟩:=by
 apply ByteArray.ext
 simp
theorem Ue (l:List UInt8) (i j:Nat):(⟨l.toArray⟩:ByteArray).extract i j=⟨((l.take j).drop i).toArray⟩:=by
 apply ByteArray.ext
 simp only [ByteArray.data_extract,List.extract_toArray,List.extract_eq_take_drop]
 rw [Array.mk.injEq,List.drop_take]
section
variable {P:Program} {N:Nat} {m:Sl} {Y:World→Prop} {ty:TypeId}
theorem Zf {T yT:TypeId} {x y:Operand} {a b:List UInt8} (hx:ev m x=some (tx a)) (hy:ev m y=some (tx b)) (h:a.length+b.length≤9223372036854775807):Qt P N m Y (.binOp .add T x y yT) ty (tx (a++b)):=by
 have:=L8 (P:=P) (N:=N) (m:=m) (S:=Y) (ty:=ty) (T:=T) (yT:=yT) hx hy (by rw [YL,YL];omega)
 rw [Fg] at this;exact this
theorem KY {T yT:TypeId} {x y:Operand} {a b:List UInt8} (hx:ev m x=some (tx a)) (hy:ev m y=some (tx b)):Qt P N m Y (.binOp .eql T x y yT) ty (.bool (a==b)) :=
 QU hx hy (by show some (Value.bool (ByteArray.toList _==ByteArray.toList _))=_;rw [GR,GR])
theorem L4 {T yT:TypeId} {x y:Operand} {a b:List UInt8} (hx:ev m x=some (tx a)) (hy:ev m y=some (tx b)):Qt P N m Y (.binOp .neq T x y yT) ty (.bool (!(a==b))) :=
 QU hx hy (by show some (Value.bool (!(ByteArray.toList _==ByteArray.toList _)))=_;rw [GR,GR])
theorem XA {T:TypeId} {x:Operand} {a:List UInt8} (hx:ev m x=some (tx a)) (hT:GU P T=true):Qt P N m Y (.call ⟨.builtin .len,#[x],#[T]⟩) ty (.int .i64 a.length):=by
 have:=L6 (P:=P) (N:=N) (S:=Y) (ty:=ty) hx hT
 rw [YL] at this;exact this
theorem Vw {T:TypeId} {x y:Operand} {a:List UInt8} {i:Nat} (hx:ev m x=some (tx a)) (hy:ev m y=some (.int .i64 (i:Int))) (hT:GU P T=true) (hi:i<a.length):Qt P N m Y (.index T x y) ty (.int .u8 (a[i].toNat:Int)):=by
 have:=L7 (P:=P) (N:=N) (S:=Y) (ty:=ty) hx hy hT (by rw [YL];exact hi)
 simpa using this
theorem Mx {T:TypeId} {x:Operand} {lo hi:Option Operand} {vl vh:Option Value} {a:List UInt8} (l h:Nat) (hx:ev m x=some (tx a)) (el:US m lo=some vl) (eh:US m hi=some vh) (hT:GU P T=true)
  (hlo:(vl=none∧l=0)∨vl=some (.int .i64 (l:Int))) (hhi:(vh=none∧h=a.length)∨vh=some (.int .i64 (h:Int))) (h1:l≤h) (h2:h≤a.length):Qt P N m Y (.slice T x lo hi none) ty (tx ((a.take h).drop l)):=by
 have:=Uv (P:=P) (N:=N) (S:=Y) (ty:=ty) hx el eh hT hlo (by rw [YL];exact hhi) h1 (by rw [YL];exact h2)
 rw [Ue] at this;exact this
theorem Ha {T:TypeId} {x:Operand} {hi:Option Operand} {vh:Option Value} {a:List UInt8} (h:Nat) (hx:ev m x=some (tx a)) (eh:US m hi=some vh) (hT:GU P T=true) (hhi:vh=some (.int .i64 (h:Int))) (h2:h≤a.length):Qt P N m Y (.slice T x none hi none) ty (tx (a.take h)) :=
 Mx (P:=P) (N:=N) (m:=m) (Y:=Y) (ty:=ty) (lo:=none) (vl:=none) 0 h hx rfl eh hT (.inl ⟨rfl,rfl⟩) (.inr hhi) (Nat.zero_le _) h2
theorem Kr {T:TypeId} {x:Operand} {lo:Option Operand} {vl:Option Value} {a:List UInt8} (l:Nat) (hx:ev m x=some (tx a)) (el:US m lo=some vl) (hT:GU P T=true) (hlo:vl=some (.int .i64 (l:Int))) (h1:l≤a.length):Qt P N m Y (.slice T x lo none none) ty (tx (a.drop l)):=by
 have:=Mx (P:=P) (N:=N) (m:=m) (Y:=Y) (ty:=ty) (hi:=none) (vh:=none) l a.length hx el rfl hT (.inr hlo) (.inl ⟨rfl,rfl⟩) h1 (Nat.le_refl _)
 rw [List.take_length] at this;exact this
end
def JC (F:Gs):Prop:=(∃ m T,F 0=some (#[.int .i64 m],T))∧∃ T,F 5=some ((Lib.pow10Tab.map fun z=>Value.int .u64 z).toArray,T)
theorem JC.le {F F':Gs} (h:JC F) (k:Gs.le F F'):JC F':=by
 obtain ⟨⟨m,T,h1⟩,T',h2⟩:=h
 exact⟨⟨m,T,k _ _ h1⟩,T',k _ _ h2⟩
theorem JC.max {F:Gs} {w:World} (hF:Fits F w) (h:JC F):∃ m,w.cell? ⟨0,0,none⟩=some (.int .i64 m):=by
 obtain ⟨⟨m,T,h1⟩,_⟩:=h
 obtain ⟨fr,e⟩:=hF.row _ _ _ h1
 exact⟨m,by simp [World.cell?,e]⟩
theorem JC.UO {F:Gs} {w:World} (hF:Fits F w) (h:JC F):Lib.TabIs Tryz.prog w "internal/strconv.uint64pow10" .u64 Lib.pow10Tab:=by
 obtain ⟨_,T,h2⟩:=h
 obtain ⟨fr,e⟩:=hF.row _ _ _ h2
 have hg:Tryz.prog.globalNamed "internal/strconv.uint64pow10" = some 5:=by kernel_rfl
 unfold Lib.TabIs World.var?
 rw [hg]
 simp only [Option.bind_some,e]
theorem Nd (w:World) (e:TypeId) (s:ByteArray):Ext w (Lib.bytesWorld w e s) :=
 ⟨rfl,rfl,rfl,by rw [Lib.bytesWorld_size];omega,fun k hk=>Lib.bytesWorld_at_old w e s k hk⟩
theorem Tt (w:World) (os:Array Obj):Ext w (Sort.grow w os) :=
 ⟨rfl,rfl,rfl,by simp [Sort.grow],fun k hk=>by
  show(w.heap++os)[k]?=_
  rw [Array.getElem?_append,if_pos hk]⟩
section
variable {w:World} {F:Gs}
theorem FK (hF:Fits F w) (hG:JC F) {s p:List UInt8} (hs:s.length<4294967281):Qc Tryz.prog 160 [tx s,tx p] w F (.tuple #[tx (Lib.cut s p).1,tx (Lib.cut s p).2.1,.bool (Lib.cut s p).2.2]):=by
 obtain ⟨m,hm⟩:=hG.max hF
 refine .of (enters_of Tryz.func160 (by rfl) rfl) hF ((Tryz.strings_Cut ⟨s.toArray⟩ ⟨p.toArray⟩ m w (by rw [YL];exact hs) hm).mono ?_)
 rintro e w' ⟨h1,n,rfl⟩
 exact⟨h1,(Ext.refl w).drewN n⟩
theorem EG (hF:Fits F w) {s p:List UInt8}:Qc Tryz.prog 161 [tx s,tx p] w F (.tuple #[tx (Lib.trimPrefix s p),.bool (Lib.hasPrefix s p)]):=by
 refine .of (enters_of Tryz.func161 (by rfl) rfl) hF ((Tryz.strings_CutPrefix ⟨s.toArray⟩ ⟨p.toArray⟩ w).mono ?_)
 rintro e w' ⟨h1,rfl⟩
 exact⟨h1,Ext.refl _⟩
theorem Tr (hF:Fits F w) {s p:List UInt8}:Qc Tryz.prog 229 [tx s,tx p] w F (.bool (Lib.hasPrefix s p)):=by
 refine .of (enters_of Tryz.func229 (by rfl) rfl) hF ((Tryz.strings_HasPrefix ⟨s.toArray⟩ ⟨p.toArray⟩ w).mono ?_)
 rintro e w' ⟨h1,rfl⟩
 exact⟨h1,Ext.refl _⟩
theorem BD (hF:Fits F w) {s p:List UInt8}:Qc Tryz.prog 230 [tx s,tx p] w F (tx (Lib.trimPrefix s p)):=by
 refine .of (enters_of Tryz.func230 (by rfl) rfl) hF ((Tryz.strings_TrimPrefix ⟨s.toArray⟩ ⟨p.toArray⟩ w).mono ?_)
 rintro e w' ⟨h1,rfl⟩
 exact⟨h1,Ext.refl _⟩
theorem Lx (hF:Fits F w) {s:List UInt8} {c:Nat} (hc:s.length*c≤140737488355328) (hc':c≤140737488355328):Qc Tryz.prog 279 [tx s,.int .i64 c] w F (tx (Lib.repeatL s c)):=by
 refine .of (enters_of Tryz.func279 (by rfl) rfl) hF ((Tryz.strings_Repeat ⟨s.toArray⟩ c w (by omega) (by rw [YL];exact hc)).mono ?_)
 rintro e w' ⟨h1,h2⟩
 exact⟨h1,h2⟩
theorem yN (hF:Fits F w) {s:List UInt8} {n:Int} (hl:s.length≤18) (h:Lib.atoi s=some n):Qc Tryz.prog 231 [tx s] w F (.tuple #[.int .i64 n,.nilIface]):=by
 refine .of (enters_of Tryz.func231 (by rfl) rfl) hF ((Tryz.strconv_Atoi ⟨s.toArray⟩ n (by rw [YL];exact hl) h w).mono ?_)
 rintro e w' ⟨h1,t,rfl⟩
 exact⟨h1,Nd _ _ _⟩
theorem Om (hF:Fits F w) (hG:JC F) {n:Int} (h0 : -9223372036854775808≤n) (h1:n≤9223372036854775807):Qc Tryz.prog 277 [.int .i64 n] w F (tx (Lib.itoa n)):=by
 refine .of (enters_of Tryz.func277 (by rfl) rfl) hF ((Tryz.strconv_Itoa n h0 h1 w (hG.UO hF)).mono ?_)
 rintro e w' ⟨h1,k,os,rfl⟩
 exact⟨h1,((Ext.refl w).drewN k).trans (Tt _ _)⟩
theorem qZ (hF:Fits F w) {x:Int} (h0:0≤x) (h1:x≤18446744073709551615):Qc Tryz.prog 266 [.int .u64 x] w F (.int .i64 (Lib.bitLen x.toNat)):=by
 refine .of (enters_of Tryz.func266 (by rfl) rfl) hF ((Tryz.bits_Len64 x w h0 h1).mono ?_)
 rintro e w' ⟨h1,rfl⟩
 exact⟨h1,Ext.refl _⟩
theorem Bt [Dr] (hF:Fits F w) {x y:Int}:Qc Tryz.prog 216 [.int .i64 x,.int .i64 y] w F (.int .i64 (Lib.compareInt x y)):=by
 refine QT.same (enters_of Tryz.func216 (by rfl) rfl) hF (Tryz.cmp_Compare_int x y w)
end
end
section
open Go.RowKit Ig
section
variable [Dr] [df:Df]
section
variable {P:Program} {Q:Exit→Act→World→Prop} {N:Nat} {m:Sl} {E E0:Env} {ops:Array Oper} {l:List Oper} {w0:World} {F0:Gs} {bs:List (Nat×Obj)} {G:Gs→Prop}
theorem St.perm {bs':List (Nat×Obj)} {w:World} (h:St ⟨w0,F0,bs,G⟩ w) (hp:bs.Perm bs'):St ⟨w0,F0,bs',G⟩ w:=by
 obtain ⟨F,h⟩:=h
 exact⟨F,h.le,h.old,h.fits,h.ext,fun k hk=>h.bx k (hp.mem_iff.2 hk),(hp.map _).nodup_iff.1 h.nd,h.g⟩
def J9 (P:Program) (f:FuncId) (args:List Value) (E:Env) {γ:Type} (val:γ→Value) (E':γ→Env):Prop :=
 Enters P f∧∀ w,St E w→Calls P f args.toArray w fun e w'=>∃ c,e = .returned (val c)∧St (E' c) w'
def EPost {γ:Type} (val:γ→Value) (E':γ→Env) (e:Ending) (w':World):Prop:=∃ c,e = .returned (val c)∧St (E' c) w'
section
variable {d:Nat} {ty:TypeId} {pos:String} {aft:Array Edge} {f:FuncId} {args:Array Operand} {tys:Array TypeId} {vs:List Value} {γ:Type} {val:γ→Value} {E':γ→Env} {bs1:List (Nat×Obj)}
theorem Iz {x:Operand} {c1 c2:List Value} (hx:ev m x=some (.func (.func f) c1.toArray c2.toArray)) (hv:Ec m args.toList=some vs) (hp:bs.Perm bs1) (hc:J9 P f (c1++vs++c2) ⟨w0,F0,bs1,G⟩ val E')
  (k:∀ c,JS P ops Q l N ((d,val c)::m) (E' c)) (hd:J4 N (some d)=true:=by rfl):JS P ops Q (⟨some d,.call ⟨.value x,args,tys⟩,ty,pos,aft,none⟩::l) N m ⟨w0,F0,bs,G⟩:=by
 intro a w ha hw
 refine wpList_plain rfl fun K hK=>?_
 unfold Oper.wp
 rw [WA hc.1 (ha.ev hx)]
 have e:c1.toArray++args.map a.eval++c2.toArray=(c1++vs++c2).toArray:=by
  have:=ha.Ec hv
  have e2:args.map a.eval=vs.toArray:=by rw [← this];apply Array.ext' ;simp
  rw [e2];apply Array.ext';simp
 simp only [Oper.upon]
 rw [e]
 refine(hc.2 w (hw.perm hp)).mono ?_
 rintro e w' ⟨c,rfl,h⟩
 exact hK _ _ (k c _ w' (ha.put hd (val c)) h)
theorem XL (hv:Ec m args.toList=some vs) (hp:bs.Perm bs1) (hc:J9 P f vs ⟨w0,F0,bs1,G⟩ val E')
  (k:∀ c,JS P ops Q l N ((d,val c)::m) (E' c)) (hd:J4 N (some d)=true:=by rfl):JS P ops Q (⟨some d,.call ⟨.value (.func f),args,tys⟩,ty,pos,aft,none⟩::l) N m ⟨w0,F0,bs,G⟩ :=
 Iz (x:=.func f) (c1:=[]) (c2:=[]) rfl hv hp (by simpa using hc) k hd
theorem UJ {bs0:List (Nat×Obj)} {G0:Gs→Prop} (hv:Ec m args.toList=some vs) (hp:bs.Perm bs1) (hc:J9 P f vs ⟨w0,F0,bs1,G⟩ val E') (h0:∀ c w,St (E' c) w→St ⟨w0,F0,bs0,G0⟩ w)
  (k:∀ c,JD P ops Q ⟨w0,F0,bs0,G0⟩ l N ((d,val c)::m) (E' c)) (hd:J4 N (some d)=true:=by rfl):JD P ops Q ⟨w0,F0,bs0,G0⟩ (⟨some d,.call ⟨.value (.func f),args,tys⟩,ty,pos,aft,none⟩::l) N m ⟨w0,F0,bs,G⟩:=by
 intro hE a w ha hw
 refine .inr ⟨rfl,?_⟩
 rw [if_pos (by simp [Region.wanted])]
 unfold Oper.wp
 rw [WA (c1:=#[]) (c2:=#[]) hc.1 (ha.ev (x:=.func f) rfl)]
 have e:#[]++args.map a.eval++#[]=vs.toArray:=by
  have:=ha.Ec hv
  have e2:args.map a.eval=vs.toArray:=by rw [← this];apply Array.ext' ;simp
  rw [e2];apply Array.ext';simp
 simp only [Oper.upon]
 rw [e]
 refine(hc.2 w (hw.perm hp)).mono ?_
 rintro e w' ⟨c,rfl,h⟩
 exact⟨h0 c w' h,k c (h0 c) _ w' (ha.put hd (val c)) h⟩
theorem St.last {w w':World} (hF:Fits F0 w0) (h:St ⟨w0,F0,bs,G⟩ w) (hb:Below w0.heap.size w w') (hd:Dr.on→w.drawn≤w'.drawn):St ⟨w0,F0,[],fun F=>Gs.le F0 F⟩ w':=by
 obtain ⟨F,h⟩:=h
 have hx:Ext w0 w':=⟨hb.os.trans h.ext.os,hb.tape.trans h.ext.tape,hb.output.trans h.ext.output,Nat.le_trans h.ext.size hb.size,fun k hk=>(hb.block k hk).trans (h.ext.block k hk)⟩
 have hle:Gs.le F0 (fun b=>if b<w0.heap.size then F0 b else match w'.heap[b]? with | some (.cells c T _)=>if T=248 then some (c,248) else none | _=>none):=by
  intro b x hb
  show(if b<w0.heap.size then _ else _)=_
  rw [if_pos (hF.lt hb)];exact hb
 refine⟨_,hle,?_,⟨?_,?_⟩,⟨hx,fun d=>Nat.le_trans (h.ext.dr d) (hd d)⟩,fun _ h=>(by cases h),List.nodup_nil,fun F' h'=>Gs.le_trans hle h'⟩
 ·intro b hb
  show(if b<w0.heap.size then _ else _)=_
  rw [if_pos hb]
 ·intro b c T hb
  by_cases hlt:b<w0.heap.size
  ·rw [if_pos hlt] at hb
   obtain ⟨fr,e⟩:=hF.row b c T hb
   exact⟨fr,by rw [hx.block b hlt];exact e⟩
  ·rw [if_neg hlt] at hb
   split at hb
   ·rename_i c' T' fr heq
    split at hb
    ·rename_i hT;cases hb;exact⟨fr,by rw [heq,hT]⟩
    ·cases hb
   ·cases hb
 ·intro b c fr hb
  show(if b<w0.heap.size then _ else _)=_
  by_cases hlt:b<w0.heap.size
  ·rw [if_pos hlt]
   rw [hx.block b hlt] at hb
   exact hF.all b c fr hb
  ·rw [if_neg hlt,hb];simp
theorem EU {v:Value} (hF:Fits F0 w0) (hv:Ec m args.toList=some vs) (he:Enters P f) (hc:∀ w,St ⟨w0,F0,bs,G⟩ w→Calls P f vs.toArray w fun e w'=>e = .returned v∧Below w0.heap.size w w')
  (k:JS P ops Q l N ((d,v)::m) ⟨w0,F0,[],fun F=>Gs.le F0 F⟩) (hd:J4 N (some d)=true:=by rfl) (hn:¬ Dr.on:=by exact id):JS P ops Q (⟨some d,.call ⟨.value (.func f),args,tys⟩,ty,pos,aft,none⟩::l) N m ⟨w0,F0,bs,G⟩ :=
 XL (γ:=Unit) (val:=fun _=>v) (E':=fun _=>⟨w0,F0,[],fun F=>Gs.le F0 F⟩) hv (List.Perm.refl _) ⟨he,fun w hw=>(hc w hw).mono fun _ _ ⟨h1,h2⟩=>⟨(),h1,hw.last hF h2 fun d=>absurd d hn⟩⟩ (fun _=>k) hd
end
omit [Df] in
theorem J9.intro {f:FuncId} {fn:Func} {c:Code} {args:List Value} {γ:Type} {val:γ→Value} {E':γ→Env} (hf:P.funcs[f]?=some fn) (hb:fn.body=some c) (hn:(fn.name == "runtime.NumGoroutine")=false) (hN:fn.ntmps=N) (hl:Nat.ble args.length N=true)
  (h:J (df:=VA) P c (bodyPost P fn (EPost val E')) N (Nh 0 args) E):J9 P f args E val E':=by
 refine⟨enters_of hf hn (by rw [hb];rfl),fun w hw=>calls_of_wp hf hb (h _ w ⟨?_,rfl,fun t v ht=>?_⟩ hw)⟩
 ·have:=Nat.le_of_ble_eq_true hl
  simp [hN];omega
 ·obtain ⟨_,h2⟩:=WL args 0 t v ht
  have hlt:t<args.length:=by rcases Nat.lt_or_ge t args.length with g | g;exact g;rw [Nat.sub_zero,List.getElem?_eq_none g] at h2;cases h2
  simp only [Nat.sub_zero] at h2
  rw [Array.getElem?_append,if_pos (by simpa using hlt)]
  simpa using h2
omit [Df] in
theorem Yt {fn:Func} {γ:Type} {val:γ→Value} {E':γ→Env} {rs:List ResultVar} {vs:List Value} (c:γ) (hrs:fn.results=rs.toArray) (h:Dh P m bs rs vs) (hv:val c=(match vs with | [v]=>v | vs=>.tuple vs.toArray)) (hg:∀ w,St ⟨w0,F0,bs,G⟩ w→St (E' c) w):Fin (df:=VA) (bodyPost P fn (EPost val E')) .ret N m ⟨w0,F0,bs,G⟩:=fun a w ha hw =>
 ⟨ha.df,val c,by rw [hv];exact W2 hrs h ha hw,c,rfl,hg w hw⟩
omit [Df] in
theorem Dk {fn:Func} {γ:Type} {val:γ→Value} {E':γ→Env} (h:Fin (df:=VA) (bodyPost P fn (EPost val E')) .ret N m E):Fin (df:=VA) (bodyPost P fn (EPost val E')) .normal N m E:=h
theorem X9 {bs':List (Nat×Obj)} (hp:bs.Perm bs') (k:JS P ops Q l N m ⟨w0,F0,bs',G⟩):JS P ops Q l N m ⟨w0,F0,bs,G⟩:=fun a w ha hw=>k a w ha (hw.perm hp)
theorem u6 {e:Exit} {bs':List (Nat×Obj)} (hp:bs.Perm bs') (k:Fin Q e N m ⟨w0,F0,bs',G⟩):Fin Q e N m ⟨w0,F0,bs,G⟩:=fun a w ha hw=>k a w ha (hw.perm hp)
theorem Src.Lt {sz k b c:Nat} {news:List Value} {T:TypeId} {fr:Nat×Nat} (hm:(b,Obj.cells news.toArray T fr)∈bs) (hl:news.length=k*sz):Src ⟨w0,F0,bs,G⟩ sz (.slice (.some ⟨b,0,none⟩) k c) k news :=
 ⟨hl,.inr ⟨_,_,rfl,fun w hw j v hv=>by
  obtain ⟨F,hw⟩:=hw
  rw [Ke,Xu (hw.bx _ hm).1,Nat.zero_add];exact hv⟩⟩
theorem yY {d:Nat} {o:Op} {ty:TypeId} {pos:String} {aft:Array Edge} {v:Value} {E':Env} (h:∀ a w,Jr N m a→St E w→∃ w',(execOp a.eval ⟨some d,o,ty,pos,aft,none⟩).run P w = .ok (.value v) w'∧St E' w') (k:JS P ops Q l N ((d,v)::m) E') (hd:J4 N (some d)=true:=by rfl) :
  JS P ops Q (⟨some d,o,ty,pos,aft,none⟩::l) N m E:=fun a w ha hw=>wpList_plain rfl fun K hK=>by
 obtain ⟨w',h1,h2⟩:=h a w ha hw
 exact upon_value h1 (hK _ _ (k _ w' (ha.put hd v) h2))
theorem L2 {T yT ty:TypeId} {x y:Operand} {p:Option Addr} {Y:World→Prop} (hx:ev m x=some (.pointer p)) (hy:ev m y=some (.pointer none)) (hT:P.underlying T=some (.pointer (P.pointee T))):Qt P N m Y (.binOp .eql T x y yT) ty (.bool p.isNone):=fun a w _ _ _ _ ha _=>by
 have:=run_eql_pointer_nil (P:=P) (w:=w) T p hT
 simp [execOp,ha.ev hx,ha.ev hy,eqGuard,this]
theorem N6 {t u e ty:TypeId} {i:TypeInfo} {n:Nat} {x:Value} {olds:List Value} {ob:List (Nat×Obj)} {w:World} {s:List UInt8} (ht:H2 P t=some e) (hu:P.underlying u=some .string) (hi:P.info? e=some i) (hz:i.zero=some (.int .u8 0)) (hsz:i.size=1) (hby:i.bytes=1)
  (hr:Qz e 1 x n olds ob) (hw:St ⟨w0,F0,ob++bs,G⟩ w) (h47:n+s.length≤140737488355328) (hU:WJ e=true) :
  ∃ v' ob' w',(Builtin.append_ #[t,u] ty #[x,tx s]).run P w = .ok v' w'∧Qz e 1 v' (n+s.length) (olds++Lib.byteCells s) ob'∧St ⟨w0,F0,ob'++bs,G⟩ w':=by
 have hu':∀ c fr c' fr',Obj.cells c e fr≠.cells c' 248 fr':=fun c fr=>Xj hU
 have hsl:(⟨s.toArray⟩:ByteArray).size=s.length:=YL s
 have hbl:(Lib.byteCells s).length=s.length:=Lib.byteCells_length s
 have hzc:∀ q,(Builtin.zeroCells (Value.int .u8 0).cells q).toList.length=q:=fun q=>by simp [Builtin.zeroCells,Value.cells]
 have new:∀ {w':World} (l rest:List Value) (cap:Nat) (bs':List (Nat×Obj)),St ⟨w0,F0,bs',G⟩ w'→bs.Sublist bs'→l.length=n+s.length→l.length+rest.length=cap→n+s.length≤cap→cap≤maxLen →
   ∃ ob',Qz e 1 (.slice (some ⟨w'.heap.size,0,none⟩) (n+s.length) cap) (n+s.length) l ob'∧St ⟨w0,F0,ob'++bs,G⟩ (w'.alloc (.cells (l++rest).toArray e)):=by
  intro w' l rest cap bs' hw' hsub h2 h3 h4 h5
  exact⟨_,.some (by omega) (by omega) h4 h5,(hw'.imp hsub fun _ h=>h).alloc _ (hu' _ _)⟩
 cases hr with
 |nil =>
  simp only [Nat.zero_add,List.nil_append] at *
  by_cases hm:s.length=0
  ·have hs0:s=[]:=List.eq_nil_of_length_eq_zero hm
   subst hs0
   refine⟨.slice none 0 0,[],w,?_,.nil,hw⟩
   have hf:=Lib.run_firstCells_string (P:=P) w 1 ⟨#[]⟩
   have hf':(Builtin.firstCells 1 0 (tx [])).run P w = .ok #[] w:=by simpa [ByteArray.size,Lib.strCells] using hf
   simp [Builtin.append_,run_underlying (Q7 ht),run_underlying hu,sizeOf,typeInfo,hi,hsz,Builtin.lenOf,ByteArray.size,hf']
  ·have hrun:=run_append_nil_string (P:=P) (w:=w) t u ty e i (.int .u8 0) (Q7 ht) hu hi hz ⟨s.toArray⟩ (by omega) (by omega) (by rw [hby];omega)
   rw [hsl] at hrun
   have hge:=grownCap_ge w s.length 0 e
   obtain ⟨ob',h2,h3⟩:=new (Lib.byteCells s) (Builtin.zeroCells (Value.int .u8 0).cells (grownCap w s.length 0 e - s.length)).toList (grownCap w s.length 0 e) bs hw.drew subl_r hbl (by rw [hzc,hbl];omega) hge (grownCap_le_maxLen w s.length 0 e (by simp only [maxLen];omega))
   refine⟨_,ob',_,hrun,h2,?_⟩
   have e1:(Lib.byteCells s++(Builtin.zeroCells (Value.int .u8 0).cells (grownCap w s.length 0 e - s.length)).toList).toArray=((⟨s.toArray⟩:ByteArray).data.map fun b=>Value.int .u8 b.toNat)++Builtin.zeroCells (Value.int .u8 0).cells (grownCap w s.length 0 e - s.length):=by apply Array.ext';simp [Lib.byteCells]
   rw [e1] at h3;exact h3
 |some g1 g2 g3 g4 =>
  rename_i b cap rest
  have hbw:w.heap[b]?=some (.cells (olds++rest).toArray e (0,0)):=hw.own (f:=fun o'=>(b,o')::bs) .here
  have hol:olds.length=n:=by omega
  by_cases hroom:n+s.length≤cap
  ·have hrun:=Lib.run_append_room_string (P:=P) w t u ty e i (Q7 ht) hu hi hsz b n cap _ hbw ⟨s.toArray⟩ (by omega) (by simp;omega)
   rw [hsl] at hrun
   have e1:((olds++rest).toArray.toList.take n++Lib.strCells ⟨s.toArray⟩++(olds++rest).toArray.toList.drop (n+s.length))=olds++Lib.byteCells s++rest.drop s.length:=by
    rw [Lib.strCells_eq]
    simp only [List.append_assoc]
    rw [← hol]
    simp [List.drop_append]
   rw [e1] at hrun
   refine⟨_,[(b,.cells (olds++Lib.byteCells s++rest.drop s.length).toArray e (0,0))],_,hrun,.some ?_ ?_ hroom g4,?_⟩
   ·rw [List.length_append,hbl];omega
   ·rw [List.length_append,List.length_drop,hbl];omega
   ·have hlt:b<w.heap.size:=(Array.getElem?_eq_some_iff.1 hbw).1
    refine St.write (o:=.cells (olds++rest).toArray e (0,0)) [] hw ⟨?_,rfl,rfl,rfl,rfl⟩ (hu' _ _)
    apply Array.ext_getElem?
    intro j
    rw [Array.getElem?_setIfInBounds]
    by_cases hj:b=j
    ·subst hj
     rw [if_pos rfl,if_pos hlt,setRow_heap w b _ _ e _ hbw]
    ·rw [if_neg hj,setRow_other w b j _ (fun e=>hj e.symm)]
  ·have hold:∀ j v,olds[j]?=some v→w.cell? ((⟨b,0,none⟩:Addr).add j)=some v:=fun j v hv=>by
    rw [Ke,Nat.zero_add,Xu hbw,List.getElem?_append]
    have:j<olds.length:=by rcases Nat.lt_or_ge j olds.length with q | q;exact q;rw [List.getElem?_eq_none q] at hv;cases hv
    rw [if_pos this];exact hv
   have hrun:=Lib.run_append_grow_string (P:=P) w t u ty e i (.int .u8 0) (Q7 ht) hu hi hz ⟨b,0,none⟩ n cap olds (by rw [hsz];omega) hold ⟨s.toArray⟩ (by omega) (by omega) (by rw [hby];exact growslice_fits (by omega) (by omega))
   rw [hsl] at hrun
   have hge:=grownCap_ge w (n+s.length) cap e
   obtain ⟨ob',h2,h3⟩:=new (olds++Lib.byteCells s) (Builtin.zeroCells (Value.int .u8 0).cells (grownCap w (n+s.length) cap e - (n+s.length))).toList (grownCap w (n+s.length) cap e) _ hw.drew (List.sublist_cons_self _ _) (by rw [List.length_append,hbl];omega) (by rw [hzc,List.length_append,hbl];omega) hge (grownCap_le_maxLen w (n+s.length) cap e (by simp only [maxLen];omega))
   refine⟨_,ob',_,hrun,h2,?_⟩
   have e1:(olds++Lib.byteCells s++(Builtin.zeroCells (Value.int .u8 0).cells (grownCap w (n+s.length) cap e - (n+s.length))).toList).toArray=olds.toArray++(Lib.strCells ⟨s.toArray⟩).toArray++Builtin.zeroCells (Value.int .u8 0).cells (grownCap w (n+s.length) cap e - (n+s.length)):=by
    rw [Lib.strCells_eq]
    apply Array.ext';simp
   rw [e1] at h3;exact h3
theorem SS {d:Nat} {ty:TypeId} {pos:String} {aft:Array Edge} {t u e:TypeId} {i:TypeInfo} {n:Nat} {X Y:Operand} {x:Value} {olds:List Value} {ob bs1:List (Nat×Obj)} {s:List UInt8} (hx:ev m X=some x) (hy:ev m Y=some (tx s)) (ht:H2 P t=some e) (hu:P.underlying u=some .string) (hi:P.info? e=some i) (hz:i.zero=some (.int .u8 0)) (hsz:i.size=1) (hby:i.bytes=1)
  (hr:Qz e 1 x n olds ob) (hp:bs.Perm (ob++bs1)) (h47:n+s.length≤140737488355328)
  (kk:∀ v' ob',Qz e 1 v' (n+s.length) (olds++Lib.byteCells s) ob'→JS P ops Q l N ((d,v')::m) ⟨w0,F0,ob'++bs1,G⟩) (hU:WJ e=true:=by rfl) (hd:J4 N (some d)=true:=by rfl) :
  JS P ops Q (⟨some d,.call ⟨.builtin .append,#[X,Y],#[t,u]⟩,ty,pos,aft,none⟩::l) N m ⟨w0,F0,bs,G⟩:=fun a w ha hw =>
 wpList_plain rfl fun K hK=>by
  obtain ⟨v',ob',w',h2,h3,h4⟩:=N6 (ty:=ty) ht hu hi hz hsz hby hr (hw.perm hp) h47 hU
  refine upon_value (w':=w') (v:=v') ?_ (hK _ _ (kk v' ob' h3 _ w' (ha.put hd v') h4))
  simp only [execOp,resolve,invoke,builtin,Sem.run_bind,Sem.run_pure,Result.andThen_ok,List.map_toArray,List.map_cons,List.map_nil,ha.ev hx,ha.ev hy,h2]
end
end
end
section
open Go.RowKit Ig
section
variable [Dr] [df:Df] {P:Program} {Q:Exit→Act→World→Prop} {N:Nat} {m:Sl} {E E0:Env} {ops:Array Oper} {l:List Oper} {w0:World} {F0:Gs} {bs:List (Nat×Obj)} {G:Gs→Prop}
theorem BM {w:World} {b:Nat} {c:List Value} {T:TypeId} {fr:Nat×Nat} (h:w.heap[b]?=some (.cells c.toArray T fr)):w.shape? b=some (T,c.length):=by
 simp [World.shape?,h]
theorem Uu {src dst t T' ty:TypeId} {x:Operand} {b off:Nat} {c:List Value} {fr:Nat×Nat} {f:Obj→List (Nat×Obj)} (hx:ev m x=some (.pointer (some ⟨b,off,none⟩))) (hs:P.underlying src=some (.pointer t)) (hd:P.underlying dst=some .unsafePointer) (ht:(P.info? t).any (fun j=>j.size != 0)=true)
  (ho:Own bs b (.cells c.toArray T' fr) f) (hoff:off<c.length):Qt P N m (St ⟨w0,F0,bs,G⟩) (.convert src dst x) ty (.pointer (some ⟨b,off,none⟩)):=fun a w _ _ _ _ ha hw=>by
 obtain ⟨j,hj,hjs⟩:=Option.any_eq_true .. |>.1 ht
 have:=Lib.run_to_unsafe (P:=P) w ⟨b,off,none⟩ hs hd hj (by simpa using hjs) (BM (hw.own ho)) hoff
 simp [execOp,ha.ev hx,this]
theorem Re {src dst t T' ty:TypeId} {x:Operand} {b off:Nat} {c:List Value} {fr:Nat×Nat} {f:Obj→List (Nat×Obj)} (hx:ev m x=some (.pointer (some ⟨b,off,none⟩))) (hs:P.underlying src=some .unsafePointer) (hd:P.underlying dst=some (.pointer t)) (ht:(P.info? t).isSome=true)
  (ho:Own bs b (.cells c.toArray T' fr) f) (hl:liesAt P P.depth T' (c.length / P.cellsOf T') off t 1=true):Qt P N m (St ⟨w0,F0,bs,G⟩) (.convert src dst x) ty (.pointer (some ⟨b,off,none⟩)):=fun a w _ _ _ _ ha hw=>by
 obtain ⟨j,hj⟩:=Option.isSome_iff_exists.1 ht
 have:=Lib.run_from_unsafe (P:=P) w ⟨b,off,none⟩ hs hd hj (BM (hw.own ho)) hl
 simp [execOp,ha.ev hx,this]
theorem Ft {T t yT ty:TypeId} {x y:Operand} {p:Addr} {Y:World→Prop} (hx:ev m x=some (.pointer (some p))) (hy:ev m y=some (.pointer (some p))) (hT:P.underlying T=some (.pointer t)) (ht:(P.info? t).isSome=true):Qt P N m Y (.binOp .neq T x y yT) ty (.bool false):=fun a w _ _ _ _ ha _=>by
 obtain ⟨j,hj⟩:=Option.isSome_iff_exists.1 ht
 have:=Lib.run_neq_ptr_same (P:=P) w p hT hj
 simp [execOp,ha.ev hx,ha.ev hy,eqGuard,this]
theorem Iy {d:Nat} {ty:TypeId} {pos:String} {aft:Array Edge} {f:FuncId} {fn:Func} {e:Array Value→Sem Value} {args:Array Operand} {tys:Array TypeId} {vs:List Value} {v:Value} (hf:P.funcs[f]?=some fn) (hname:(fn.name == "runtime.NumGoroutine")=false)
  (hb:fn.body.isNone=true) (hn:Extern.findNext fn=none) (he:Extern.find fn=some e) (hv:Ec m args.toList=some vs) (hr:∀ w,(e vs.toArray).run P w = .ok v w) (k:JS P ops Q l N ((d,v)::m) E) (hd:J4 N (some d)=true:=by rfl) :
  JS P ops Q (⟨some d,.call ⟨.value (.func f),args,tys⟩,ty,pos,aft,none⟩::l) N m E :=
 yY (fun a w ha hw=>⟨w,by
  have h1:a.eval (.func f) = .func (.func f) #[] #[]:=ha.ev (x:=.func f) rfl
  have e2:args.map a.eval=vs.toArray:=by rw [← ha.Ec hv];apply Array.ext';simp
  simp only [execOp,resolve,h1,Deferred.ofValue,Sem.run_bind,Sem.run_pure,Result.andThen_ok,invoke,e2]
  simp [run_callFunc_extern hf hname hb hn he,hr],hw⟩) k hd
end
inductive UT (b:Nat):List UInt8→List (Nat×Obj)→Prop
 |fresh:UT b [] [(b,.cells [Value.pointer none,.slice none 0 0].toArray 284 (0,0))]
 |used {l:List UInt8} {v:Value} {ob:List (Nat×Obj)} (hr:Qz 5 1 v l.length (Lib.byteCells l) ob):UT b l ((b,.cells [Value.pointer (some ⟨b,0,none⟩),v].toArray 284 (0,0))::ob)
section
variable {w0:World} {F0:Gs} {bs:List (Nat×Obj)} {G:Gs→Prop}
theorem EH {b:Nat} {p:Option Addr} {v:Value} (hp:p=none∨p=some ⟨b,0,none⟩):J9 Tryz.prog 310 [.pointer (some ⟨b,0,none⟩)] ⟨w0,F0,(b,.cells [Value.pointer p,v].toArray 284 (0,0))::bs,G⟩ (fun(_:Unit)=>.tuple #[]) (fun _=>⟨w0,F0,(b,.cells [Value.pointer (some ⟨b,0,none⟩),v].toArray 284 (0,0))::bs,G⟩):=by
 refine J9.intro Tryz.func310 rfl (by rfl) rfl rfl<|J_sr<|JS_mv rfl<|QA (VI rfl)<|QA (QI rfl SA DE)<|QA (Qo rfl DE .here (.here .nil))<|QA (L2 rfl rfl (by kernel_rfl))<|QE<|QC ?_
 refine QP rfl (fun hc=>?_) (fun hc=>?_)
 ·have hp':p=none:=by rcases hp with rfl | rfl;rfl;cases hc
  subst hp'
  refine QB<|JS_mv rfl<|JS_mv rfl<|QA (Uu rfl Tryz.underlying281 Tryz.underlying325 (by kernel_rfl) .here (Nat.zero_lt_succ _))<|Iy Tryz.func324 (by kernel_rfl) (by kernel_rfl) (by kernel_rfl) (e:=Extern.AbiNoEscape.same) (by kernel_rfl) rfl (fun w=>Lib.run_noEscape w _)<|QA (Re rfl Tryz.underlying325 Tryz.underlying281 (by kernel_rfl) .here (by kernel_rfl))<|QA (VI rfl)<|QA (QI rfl SA DE)<|QQ (vs:=[_]) rfl rfl rfl DE rfl .here (.here .nil) ⟨rfl,trivial⟩<|QE<|Dk ?_
  exact Yt () rfl .nil rfl (fun w h=>h)
 ·have hp':p=some ⟨b,0,none⟩:=by rcases hp with rfl | rfl;cases hc;rfl
  subst hp'
  refine J_sr<|JS_mv rfl<|QA (VI rfl)<|QA (QI rfl SA DE)<|QA (Qo rfl DE .here (.here .nil))<|JS_mv rfl<|QA (Ft rfl rfl Tryz.underlying281 (by kernel_rfl))<|JS_nt<|YF rfl<|QO<|Dk ?_
  exact Yt () rfl .nil rfl (fun w h=>h)
theorem zj:∃ i,Tryz.prog.info? 5=some i∧i.zero=some (.int .u8 0)∧i.size=1∧i.bytes=1:=by
 have h:((Tryz.prog.info? 5).map fun i=>(i.zero,i.size,i.bytes))=some (some (.int .u8 0),1,1):=by kernel_rfl
 obtain ⟨i,h1,h2⟩:=Option.map_eq_some_iff.1 h
 simp only [Prod.mk.injEq] at h2
 exact⟨i,h1,h2⟩
theorem WW {b:Nat} {p:Option Addr} {v:Value} {l s:List UInt8} {ob:List (Nat×Obj)} (hp:p=none∨p=some ⟨b,0,none⟩) (hr:Qz 5 1 v l.length (Lib.byteCells l) ob) (hn:l.length+s.length≤140737488355328) :
  J9 Tryz.prog 280 [.pointer (some ⟨b,0,none⟩),tx s] ⟨w0,F0,(b,.cells [Value.pointer p,v].toArray 284 (0,0))::(ob++bs),G⟩ (fun(_:List (Nat×Obj))=>.tuple #[.int .i64 s.length,.nilIface])
   (fun ob'=>⟨w0,F0,ob'++bs,fun F=>G F∧UT b (l++s) ob'⟩):=by
 obtain ⟨i8,hi1,hi2,hi3,hi4⟩:=zj
 refine J9.intro Tryz.func280 rfl (by rfl) rfl rfl<|J_sr<|JS_as rfl<|JS_as rfl<|JS_nt<|J_sr<|JS_mv rfl<|XL rfl (List.Perm.refl _) (EH hp) (fun _=>JS_nt<|J_sr<|JS_mv rfl<|JS_mv rfl<|QA (VI rfl)<|QA (QI rfl E3 Wx)<|QA (Qo rfl Wx .here (.skip (.here .nil)))<|JS_mv rfl<|SS (bs1:=(b,.cells [Value.pointer (some ⟨b,0,none⟩),v].toArray 284 (0,0))::bs) rfl rfl Uo Tryz.underlying9 hi1 hi2 hi3 hi4 hr (by rw [← List.singleton_append];exact(List.perm_append_comm_assoc _ _ _)) hn (fun v' ob' hr'=>QA (VI rfl)<|QA (QI rfl E3 Wx)<|X9 (bs':=(b,.cells [Value.pointer (some ⟨b,0,none⟩),v].toArray 284 (0,0))::(ob'++bs)) (by rw [← List.singleton_append (l:=bs),← List.singleton_append];exact(List.perm_append_comm_assoc _ _ _)) ?_))
 obtain ⟨h1,h2⟩:=hr'.one
 refine QQ (vs:=[v']) rfl rfl h2 Wx rfl .here (.skip (.here .nil)) ⟨h1,trivial⟩<|JS_nt<|J_sr<|JS_mv rfl<|QA (XA rfl Xn)<|JS_as rfl<|JS_as rfl<|JS_nt<|QS ?_
 have hb:UT b (l++s) ((b,.cells [Value.pointer (some ⟨b,0,none⟩),v'].toArray 284 (0,0))::ob'):=.used (by rw [List.length_append,Lib.byteCells_append];exact hr')
 exact Yt _ rfl (.tmp rfl (.tmp rfl .nil)) rfl (fun w h=>St.Bb (bs:=(_::ob')++bs) h fun F hG=>⟨hG,hb⟩)
theorem Vk {b:Nat} {l s:List UInt8} {ob:List (Nat×Obj)} (h:UT b l ob) (hn:l.length+s.length≤140737488355328) :
  J9 Tryz.prog 280 [.pointer (some ⟨b,0,none⟩),tx s] ⟨w0,F0,ob++bs,G⟩ (fun(_:List (Nat×Obj))=>.tuple #[.int .i64 s.length,.nilIface])
   (fun ob'=>⟨w0,F0,ob'++bs,fun F=>G F∧UT b (l++s) ob'⟩):=by
 cases h with
 |fresh=>exact WW (l:=[]) (ob:=[]) (.inl rfl) .nil hn
 |used hr=>exact WW (.inr rfl) hr hn
theorem G3 {b:Nat} {p:Option Addr} {v:Value} {l:List UInt8} {c:UInt8} {ob:List (Nat×Obj)} (hp:p=none∨p=some ⟨b,0,none⟩) (hr:Qz 5 1 v l.length (Lib.byteCells l) ob) (hn:l.length+1≤140737488355328) :
  J9 Tryz.prog 288 [.pointer (some ⟨b,0,none⟩),.int .u8 c.toNat] ⟨w0,F0,(b,.cells [Value.pointer p,v].toArray 284 (0,0))::(ob++bs),G⟩ (fun(_:List (Nat×Obj))=>.nilIface)
   (fun ob'=>⟨w0,F0,ob'++bs,fun F=>G F∧UT b (l++[c]) ob'⟩):=by
 refine J9.intro Tryz.func288 rfl (by rfl) rfl rfl<|J_sr<|JS_as rfl<|JS_nt<|J_sr<|JS_mv rfl<|XL rfl (List.Perm.refl _) (EH hp) (fun _=>JS_nt<|J_sr<|JS_mv rfl<|JS_mv rfl<|QA (VI rfl)<|QA (QI rfl E3 Wx)<|QA (Qo rfl Wx .here (.skip (.here .nil)))<|JS_mv rfl<|HM rfl (Q7 Uo) ku cK rfl rfl (fun bx=>?_))
 refine X9 (bs':=ob++((bx,.cells [Value.int .u8 c.toNat].toArray 5 (0,0))::(b,.cells [Value.pointer (some ⟨b,0,none⟩),v].toArray 284 (0,0))::bs)) (by
  have:=List.perm_append_comm_assoc [(bx,Obj.cells [Value.int .u8 c.toNat].toArray 5 (0,0)),(b,Obj.cells [Value.pointer (some ⟨b,0,none⟩),v].toArray 284 (0,0))] ob bs
  exact this) ?_
 refine Di (news:=[Value.int .u8 c.toNat]) (k:=1) (sz:=1) rfl rfl Uo ku cK rfl ue hr (Src.Lt (b:=bx) (T:=5) (fr:=(0,0)) (c:=1) (by simp) rfl) (by omega) (by omega) (fun u hu=>by rw [List.mem_singleton.1 hu];rfl) (fun v' ob' hr'=>QA (VI rfl)<|QA (QI rfl E3 Wx) ?_)
 refine X9 (bs':=(b,.cells [Value.pointer (some ⟨b,0,none⟩),v].toArray 284 (0,0))::((bx,.cells [Value.int .u8 c.toNat].toArray 5 (0,0))::(ob'++bs))) (by
  have:=List.perm_append_comm_assoc ob' [(b,Obj.cells [Value.pointer (some ⟨b,0,none⟩),v].toArray 284 (0,0)),(bx,Obj.cells [Value.int .u8 c.toNat].toArray 5 (0,0))] bs
  exact((List.Perm.append_left ob' (List.Perm.swap _ _ _))).trans this) ?_
 obtain ⟨h1,h2⟩:=hr'.one
 refine QQ (vs:=[v']) rfl rfl h2 Wx rfl .here (.skip (.here .nil)) ⟨h1,trivial⟩<|JS_nt<|J_sr<|JS_as rfl<|JS_nt<|QS ?_
 have hb:UT b (l++[c]) ((b,.cells [Value.pointer (some ⟨b,0,none⟩),v'].toArray 284 (0,0))::ob'):=.used (by rw [List.length_append,Lib.byteCells_append];exact hr')
 exact Yt _ rfl (.tmp rfl .nil) rfl (fun w h=>St.imp (bs':=(_::ob')++bs) h (List.Sublist.cons_cons _ (List.Sublist.cons _ subl_r)) fun F hG=>⟨hG,hb⟩)
theorem SZ {b:Nat} {l:List UInt8} {c:UInt8} {ob:List (Nat×Obj)} (h:UT b l ob) (hn:l.length+1≤140737488355328) :
  J9 Tryz.prog 288 [.pointer (some ⟨b,0,none⟩),.int .u8 c.toNat] ⟨w0,F0,ob++bs,G⟩ (fun(_:List (Nat×Obj))=>.nilIface)
   (fun ob'=>⟨w0,F0,ob'++bs,fun F=>G F∧UT b (l++[c]) ob'⟩):=by
 cases h with
 |fresh=>exact G3 (l:=[]) (ob:=[]) (.inl rfl) .nil hn
 |used hr=>exact G3 (.inr rfl) hr hn
theorem UT.is {b:Nat} {l:List UInt8} {ob:List (Nat×Obj)} (h:UT b l ob) {w:World} (hw:St ⟨w0,F0,ob++bs,G⟩ w):Lib.IsBuilder 284 5 w0.heap.size b (Lib.byteCells l) w:=by
 obtain ⟨F,hw⟩:=hw
 cases h with
 |fresh =>
  have:=hw.bx (b,.cells [Value.pointer none,.slice none 0 0].toArray 284 (0,0)) (by simp)
  exact .inl ⟨this.2.1,_,this.1,World.ownsRow_nil w _ _ 1,by simp [Value.ownBlock]⟩
 |used hr =>
  rename_i v ob
  have h1:=hw.bx (b,.cells [Value.pointer (some ⟨b,0,none⟩),v].toArray 284 (0,0)) (by simp)
  refine .inr ⟨h1.2.1,v,h1.1,?_,?_⟩
  ·rw [Lib.byteCells_length]
   generalize hq:Lib.byteCells l=q at hr
   generalize hn:l.length=n at hr
   cases hr with
   |nil=>exact World.ownsRow_nil w _ _ 1
   |some g1 g2 g3 g4 =>
    rename_i r cap rest
    have h2:=hw.bx (r,.cells (q++rest).toArray 5 (0,0)) (by simp)
    refine⟨by omega,.inr ⟨r,cap,_,rfl,h2.2.1,h2.1,g3,g4,?_,?_⟩⟩
    ·show(q++rest).toArray.size=_
     simp;omega
    ·show(q++rest).take (n*1)=q
     rw [← g1];exact List.take_left
  ·generalize hq:Lib.byteCells l=q at hr
   generalize hn:l.length=n at hr
   cases hr with
   |nil=>simp [Value.ownBlock]
   |some g1 g2 g3 g4 =>
    have hnd:=hw.nd
    simp only [List.cons_append,List.map_cons,List.nodup_cons] at hnd
    intro e
    simp only [Value.ownBlock,Option.some.injEq] at e
    exact hnd.1 (by simp [e])
end
end
section
open Go.RowKit Go.Sort Go.Lib
theorem Uz (w:World) (o:Obj) (dk:Array UInt8) (k off:Nat):∃ os,(putRow (fun(b:UInt8)=>Value.int .u8 (b.toNat:Int)) (w.alloc o) w.heap.size off dk).drewN k=Sort.grow (w.drewN k) os:=by
 rw [alloc_eq_grow]
 obtain ⟨os',_,e⟩:=putRow_grow_new (fun(b:UInt8)=>Value.int .u8 (b.toNat:Int)) w #[o] w.heap.size off dk (Nat.le_refl _)
 exact⟨os',by rw [e];rfl⟩
theorem Tq (w:World) (T:TypeId) (nd:Nat) (hs:nd≤24):Holds (fun(b:UInt8)=>Value.int .u8 (b.toNat:Int)) (w.alloc (.cells zeros24 T)) w.heap.size 0 (Array.replicate nd (0:UInt8)):=fun j hj=>by
 have hj':j<nd:=by simpa using hj
 refine⟨?_,World.frozen?_alloc_new _ _ _ _⟩
 rw [World.cell?_alloc_new,zeros24_at _ (by omega),getElem!_pos _ j hj]
 simp
set_option maxRecDepth 100000 in
theorem PA (u:Nat) (hu64:u<18446744073709551616) (w:World) (htab:Lib.TabIs Tryz.prog w "internal/strconv.uint64pow10" .u64 Lib.pow10Tab) :
  Calls Tryz.prog 306 #[.int .u64 u,.int .i64 10] w fun e w'=>e = .returned (tx (Lib.decDigits u))∧∃ k os,w'=Sort.grow (w.drewN k) os:=by
 have e283:∀ args w,(callFunc 318 args).run Tryz.prog w = .ok (.enter 318 args) w:=Go.Proofs.enters_of Tryz.func318 (by kernel_rfl) rfl
 have e284:∀ args w,(callFunc 319 args).run Tryz.prog w = .ok (.enter 319 args) w:=Go.Proofs.enters_of Tryz.func319 (by kernel_rfl) rfl
 have e285:∀ args w,(callFunc 320 args).run Tryz.prog w = .ok (.enter 320 args) w:=Go.Proofs.enters_of Tryz.func320 (by kernel_rfl) rfl
 by_cases hs:u<100
 ·go_enter Tryz.func306,Tryz.ntmps306
  go_wp2_with (go_at_fn 318;refine(Tryz.internal_strconv_small u hs _).mono ?_;rintro e w' ⟨rfl,rfl⟩)
  go_ret
  exact⟨rfl,0,#[],by simp [World.drewN_zero]⟩
 ·have hu1:1≤u:=by omega
  have hnd20:Lib.nDigits u≤20:=by have:=Lib.numDigits_eq u hu1 hu64;split at this<;>omega
  have hb3:Lib.nDigits u≤24:=by omega
  have hal:Tryz.prog.arrayLen 320=24:=by simp [Program.arrayLen,Tryz.underlying320]
  have hsl1:∀ W,(Instr.sliceAt 320 (.pointer (some ⟨w.heap.size,0,none⟩)) none (some (.int .i64 (Lib.nDigits u:Int))) none).run Tryz.prog W = .ok (.slice (some ⟨w.heap.size,0,none⟩) (Lib.nDigits u) 24) W:=fun W=>by
   rw [run_sliceAt_array_h W 320 ⟨w.heap.size,0,none⟩ (by simp [Program.arrayLen,Program.elem,Tryz.underlying320]) .i64 (Lib.nDigits u:Int) (by omega) (by rw [hal];omega)]
   go_simp
  have hH0:=Tq w 320 (Lib.nDigits u) (by omega)
  have hfmt:=Tryz.internal_strconv_formatBase10 w.heap.size 0 24 u (Array.replicate (Lib.nDigits u) 0) (w.alloc (.cells Lib.zeros24 320)) hH0 (by rw [Array.size_replicate];exact Lib.lt_pow_nDigits u) hu64 (by rw [Array.size_replicate];omega)
  rw [Array.size_replicate] at hfmt
  have HH0:=Lib.hid hH0
  clear hH0 hal
  go_enter Tryz.func306,Tryz.ntmps306
  go_wp2_with (first
   |(go_at_fn 319;refine(Tryz.internal_strconv_numDigits u hu1 hu64 _ (Lib.tabIs_alloc htab _)).mono ?_;rintro e w' ⟨rfl,rfl⟩))
  go_at_fn 320
  refine hfmt.mono ?_
  rintro e w' ⟨rfl,k,v',dk,rfl,hF⟩
  have hcv:(convert 282 9 (.slice (some ⟨w.heap.size,0,none⟩) (Lib.nDigits u) 24)).run Tryz.prog ((putRow (fun(b:UInt8)=>Value.int .u8 (b.toNat:Int)) (w.alloc (.cells Lib.zeros24 320)) w.heap.size 0 dk).drewN k) = .ok (.string ⟨(Lib.decDigits u).toArray⟩) ((putRow (fun(b:UInt8)=>Value.int .u8 (b.toNat:Int)) (w.alloc (.cells Lib.zeros24 320)) w.heap.size 0 dk).drewN k):=by
   have h:=run_convert_bytes_back (P:=Tryz.prog) ((putRow (fun(b:UInt8)=>Value.int .u8 (b.toNat:Int)) (w.alloc (.cells Lib.zeros24 320)) w.heap.size 0 dk).drewN k) 282 9 5 ⟨w.heap.size,0,none⟩ 24 (Lib.decDigits u) Tryz.underlying282 Tryz.underlying5 Tryz.underlying9 (fun j hj=>by
    rw [Lib.row_is_numeral hF j hj,Lib.add_plain,World.cell?_drewN]
    exact cell?_putRow (fun(b:UInt8)=>Value.int .u8 (b.toNat:Int)) _ w.heap.size 0 _ dk HH0.out (by rw [hF.size,Array.size_replicate]) j (by rw [hF.size];rw [Lib.decDigits_length] at hj;exact hj))
   rw [Lib.decDigits_length] at h
   exact h
  go_wp2
  go_ret
  obtain ⟨os,eo⟩:=Uz w (.cells Lib.zeros24 320) dk k 0
  exact⟨rfl,k,os,eo⟩
theorem R7 {w:World} {F:Gs} (hF:Fits F w) (hG:JC F) {u:Nat} (hu:u<18446744073709551616):Qc Tryz.prog 278 [.int .u64 u,.int .i64 10] w F (tx (Lib.decDigits u)):=by
 refine QT.intro (G:=fun F=>JC F) Tryz.func278 rfl (by rfl) rfl rfl hF (fun F' hF'=>hG.le hF')<|J_sr<|JS_as rfl<|JS_nt<|J_sr<|JS_mv rfl<|JS_mv rfl ?_
 refine QH rfl (fun w F hF hG=>Qc.of (v:=tx (Lib.decDigits u)) (enters_of Tryz.func306 (by rfl) rfl) hF ((PA u hu w (hG.UO hF)).mono (by
  rintro e w' ⟨h1,k,os,rfl⟩
  exact⟨h1,((Ext.refl w).drewN k).trans (Tt _ _)⟩))) (fun c=>?_)
 refine JS_as rfl<|JS_nt<|QS ?_
 exact QR () rfl (.tmp rfl .nil) rfl (fun F _=>trivial)
end
section
open Go
def UQ (c:UInt8):Bool:=decide (48≤c.toNat)&&decide (c.toNat≤57)
def XH (l:List UInt8):Bool:=l.all UQ
theorem Ye {c:UInt8}:UQ c=true↔48≤c.toNat∧c.toNat≤57:=by simp [UQ]
def JB (l:List UInt8):Nat:=l.foldl (fun a c=>a*10+(c.toNat - 48)) 0
theorem gP (l:List UInt8):∀ a:Nat,l.foldl (fun a c=>a*10+(c.toNat - 48)) a=a*10^l.length+JB l:=by
 induction l with
 |nil=>intro a;simp [JB]
 |cons c l ih =>
  intro a
  simp only [List.foldl_cons,List.length_cons,JB]
  rw [ih,ih (0*10+_)]
  rw [Nat.zero_mul,Nat.zero_add,Nat.add_mul,Nat.pow_succ,Nat.mul_assoc,Nat.mul_comm 10,Nat.add_assoc]
theorem Z4 (a b:List UInt8):JB (a++b)=JB a*10^b.length+JB b:=by
 unfold JB;rw [List.foldl_append,gP];rfl
theorem Fs:JB []=0:=rfl
theorem K9 (c:UInt8):JB [c]=c.toNat - 48:=by simp [JB]
theorem Mw (c:UInt8) (l:List UInt8):JB (c::l)=(c.toNat - 48)*10^l.length+JB l:=by
 rw [← K9,← Z4];rfl
theorem X8 (a b:List UInt8):XH (a++b)=(XH a&&XH b):=by simp [XH]
theorem Gl (c:UInt8) (l:List UInt8):XH (c::l)=(UQ c&&XH l):=by simp [XH]
theorem Gk {l:List UInt8} (h:XH l=true) (n:Nat):XH (l.take n)=true:=by
 rw [← List.take_append_drop n l,X8,Bool.and_eq_true] at h;exact h.1
theorem Dc {l:List UInt8} (h:XH l=true) (n:Nat):XH (l.drop n)=true:=by
 rw [← List.take_append_drop n l,X8,Bool.and_eq_true] at h;exact h.2
theorem Vv {l:List UInt8} (h:XH l=true):JB l<10^l.length:=by
 induction l with
 |nil=>simp [JB]
 |cons c l ih =>
  rw [Gl,Bool.and_eq_true] at h
  have:=ih h.2
  have hc:=Ye.1 h.1
  rw [Mw,List.length_cons,Nat.pow_succ]
  have:(c.toNat - 48)*10^l.length≤9*10^l.length:=Nat.mul_le_mul_right _ (by omega)
  omega
theorem Yc {d:Nat} (h:d<10):(UInt8.ofNat (48+d)).toNat=48+d:=by
 rw [UInt8.toNat_ofNat'];omega
theorem Jb (n:Nat):XH (Lib.decDigits n)=true:=by
 induction n using Nat.strongRecOn with
 |_ n ih =>
  rw [Lib.decDigits]
  split
  ·rename_i h;simp [XH,UQ,Yc h];omega
  ·rw [X8,ih (n / 10) (by omega)]
   have:n%10<10:=by omega
   simp [XH,UQ,Yc this];omega
theorem XM (n:Nat):JB (Lib.decDigits n)=n:=by
 induction n using Nat.strongRecOn with
 |_ n ih =>
  rw [Lib.decDigits]
  split
  ·rename_i h;rw [K9,Yc h];omega
  ·rw [Z4,ih (n / 10) (by omega),K9,Yc (by omega)]
   simp;omega
theorem Kw (n:Nat):Lib.decDigits n≠[]:=by
 rw [Lib.decDigits];split<;>simp
theorem Ze:Lib.decDigits 0=[48]:=by rw [Lib.decDigits];rfl
theorem T6 {n:Nat} (h:0<n):∃ c l,Lib.decDigits n=c::l∧c≠48:=by
 induction n using Nat.strongRecOn with
 |_ n ih =>
  rw [Lib.decDigits]
  split
  ·rename_i h10
   refine⟨_,[],rfl,fun e=>?_⟩
   have:=Yc h10
   rw [e] at this;simp at this;omega
  ·obtain ⟨c,l,e,hc⟩:=ih (n / 10) (by omega) (by omega)
   exact⟨c,l++[UInt8.ofNat (48+n%10)],by rw [e];rfl,hc⟩
def XU (l:List UInt8):Bool:=XH l&&!l.isEmpty&&(l==[48]||!(l.head?==some 48))
theorem VO {n d:Nat} (hn:0<n) (hd:d<10):Lib.decDigits (n*10+d)=Lib.decDigits n++[UInt8.ofNat (48+d)]:=by
 rw [Lib.decDigits,dif_neg (by omega)]
 congr 2
 ·congr 1;omega
 ·congr 2;omega
theorem T5 {c:UInt8} (h:UQ c=true):UInt8.ofNat (48+(c.toNat - 48))=c:=by
 have:=Ye.1 h
 apply UInt8.toNat.inj
 rw [Yc (by omega)];omega
theorem Bo:∀ {l:List UInt8},XH l=true→l≠[]→l.head?≠some 48→Lib.decDigits (JB l)=l∧0<JB l:=by
 intro l
 induction hn:l.length generalizing l with
 |zero=>intro _ h _;exact absurd (List.eq_nil_of_length_eq_zero hn) h
 |succ n ih =>
  intro ha hne hh
  rcases List.eq_nil_or_concat l with h | ⟨a,c,rfl⟩
  ·exact absurd h hne
  ·simp only [List.concat_eq_append] at *
   rw [X8,Bool.and_eq_true] at ha
   have hc:UQ c=true:=by simpa [XH] using ha.2
   have hc':=Ye.1 hc
   rw [Z4,K9]
   cases a with
   |nil =>
    have h48:c≠48:=by simpa using hh
    have:c.toNat≠48:=fun e=>h48 (UInt8.toNat.inj (by rw [e];rfl))
    simp only [Fs,Nat.zero_mul,Nat.zero_add,List.nil_append]
    refine⟨?_,by omega⟩
    rw [Lib.decDigits,dif_pos (by omega),T5 hc]
   |cons x a =>
    obtain ⟨h1,h2⟩:=ih (l:=x::a) (by simp at hn ⊢;omega) ha.1 (by simp) (by simpa using hh)
    refine⟨?_,by simp;omega⟩
    simp only [List.length_singleton,Nat.pow_one]
    rw [VO h2 (by omega),h1,T5 hc]
theorem Bp {l:List UInt8} (h:XU l=true):Lib.decDigits (JB l)=l:=by
 simp only [XU,Bool.and_eq_true,Bool.or_eq_true,beq_iff_eq,Bool.not_eq_true',List.isEmpty_eq_false_iff] at h
 rcases h.2 with h1 | h1
 ·subst h1;rw [K9];exact Ze
 ·exact(Bo h.1.1 h.1.2 (by simpa using h1)).1
theorem CB {l:List UInt8} (h:XH l=true):∀ a,Lib.decFrom a l=some (a*10^l.length+JB l):=by
 induction l with
 |nil=>intro a;simp [Lib.decFrom,JB]
 |cons c l ih =>
  intro a
  rw [Gl,Bool.and_eq_true] at h
  have hc:=Ye.1 h.1
  simp only [Lib.decFrom,Lib.digitVal,if_pos hc]
  rw [ih h.2,Mw,List.length_cons,Nat.pow_succ,Nat.add_mul,Nat.mul_assoc,Nat.mul_comm 10,Nat.add_assoc]
theorem Iq {l:List UInt8} (h:XH l=true) (hne:l≠[]):Lib.atoi l=some (JB l:Int):=by
 cases l with
 |nil=>exact absurd rfl hne
 |cons c l =>
  have hc:=Ye.1 (by rw [Gl,Bool.and_eq_true] at h;exact h.1)
  have h1:(c==45)=false:=by
   apply beq_eq_false_iff_ne.2
   rintro rfl;simp at hc
  have h2:(c==43)=false:=by
   apply beq_eq_false_iff_ne.2
   rintro rfl;simp at hc
  simp only [Lib.atoi,h1,h2,Bool.false_eq_true,if_false,Lib.decNat,List.isEmpty_cons]
  rw [CB h];simp
def VW (k:Nat) (l:List UInt8):List UInt8:=Lib.repeatL [48] (k - l.length)++l
theorem KG (k:Nat):Lib.repeatL [48] k=List.replicate k 48:=by
 induction k with
 |zero=>rfl
 |succ k ih=>rw [Lib.repeatL,ih];rfl
theorem Za {u k:Nat} (h:u<10^k) (hk:0<k):Lib.nDigits u≤k:=by
 induction k generalizing u with
 |zero=>omega
 |succ k ih =>
  by_cases h10:u<10
  ·rw [Lib.nDigits_small h10];omega
  ·rw [Lib.nDigits_big h10]
   rcases Nat.eq_zero_or_pos k with h0 | h0
   ·subst h0;simp at h;omega
   ·have:=ih (u:=u / 10) (by rw [Nat.pow_succ] at h;omega) h0;omega
theorem OD {u:Nat} (h:0<u):10^(Lib.nDigits u - 1)≤u:=by
 induction u using Nat.strongRecOn with
 |_ u ih =>
  by_cases h10:u<10
  ·rw [Lib.nDigits_small h10];simp;omega
  ·rw [Lib.nDigits_big h10]
   have:=ih (u / 10) (by omega) (by omega)
   have h1:=Lib.nDigits_pos (u / 10)
   obtain ⟨k,hk⟩:∃ k,Lib.nDigits (u / 10)=k+1:=⟨_,(Nat.sub_add_cancel h1).symm⟩
   rw [hk] at this ⊢
   simp only [Nat.add_sub_cancel] at this ⊢
   rw [Nat.pow_succ];omega
theorem Rt {u k:Nat} (hk:0<k):k<Lib.nDigits u↔10^k≤u:=by
 constructor
 ·intro h
  rcases Nat.lt_or_ge u (10^k) with g | g
  ·have:=Za g hk;omega
  ·exact g
 ·intro h
  rcases Nat.lt_or_ge k (Lib.nDigits u) with g | g
  ·exact g
  ·have h1:=Lib.lt_pow_nDigits u
   have h2:10^Lib.nDigits u≤10^k:=Nat.pow_le_pow_right (by decide) g
   omega
theorem TJ {k:Nat} {l:List UInt8} (h:l.length≤k):(VW k l).length=k:=by
 unfold VW;rw [KG];simp;omega
theorem OO (k:Nat) (l:List UInt8) (c:UInt8):VW (k+1) (l++[c])=VW k l++[c]:=by
 unfold VW;simp
theorem Kb {q:Nat} (hq:0<q):∀ (k r:Nat),0<k→r<10^k→Lib.decDigits (q*10^k+r)=Lib.decDigits q++VW k (Lib.decDigits r)
 |0,_,h,_=>by omega
 |1,r,_,hr=>by
  simp only [Nat.pow_one] at *
  rw [VO hq hr,Lib.decDigits_one hr]
  rfl
 |k+2,r,_,hr=>by
  have e:q*10^(k+2)+r=(q*10^(k+1)+r / 10)*10+r%10:=by
   rw [Nat.pow_succ,← Nat.mul_assoc];omega
  have hr1:r / 10<10^(k+1):=by rw [Nat.pow_succ] at hr;omega
  have hpos:0<q*10^(k+1)+r / 10:=by
   have:=Nat.mul_pos hq (Nat.pow_pos (n:=k+1) (show 0<10 by decide));omega
  rw [e,VO hpos (by omega),Kb hq (k+1) (r / 10) (by omega) hr1,List.append_assoc]
  congr 1
  by_cases h10:r<10
  ·rw [Lib.decDigits_one (show r / 10<10 by omega),Lib.decDigits_one h10]
   have h0:r / 10=0:=by omega
   rw [h0]
   unfold VW
   rw [KG,KG]
   simp only [List.length_singleton,Nat.add_sub_cancel]
   rw [show k+2 - 1=k+1 by omega,List.replicate_succ',Nat.mod_eq_of_lt h10]
   rfl
  ·rw [← OO]
   congr 1
   rw [Lib.decDigits.eq_1 r,dif_neg h10]
def X0 (z:Int):List UInt8:=Lib.itoa z
def Jg (r:Rat):List UInt8:=if r.den=1 then X0 r.num else X0 r.num++47::Lib.decDigits r.den
theorem YI {z:Int} (h:z<0):X0 z=45::Lib.decDigits z.natAbs:=by unfold X0 Lib.itoa;rw [if_pos h]
theorem J3 {z:Int} (h:0≤z):X0 z=Lib.decDigits z.natAbs:=by
 unfold X0 Lib.itoa;rw [if_neg (by omega)]
 congr 1;omega
def Zz (l:List UInt8):Int:=if Lib.hasPrefix l [45] then -(JB (l.drop 1):Int) else(JB l:Int)
theorem Ka {l:List UInt8} (h:XH l=true):Lib.hasPrefix l [45]=false:=by
 cases l with
 |nil=>rfl
 |cons c l =>
  have hc:=Ye.1 (by rw [Gl,Bool.and_eq_true] at h;exact h.1)
  have:(45==c)=false:=by
   apply beq_eq_false_iff_ne.2
   rintro rfl;simp at hc
  simp [Lib.hasPrefix,List.isPrefixOf,this]
theorem YG (z:Int):Zz (X0 z)=z:=by
 unfold Zz
 by_cases h:z<0
 ·rw [YI h]
  simp [Lib.hasPrefix,List.isPrefixOf,XM];omega
 ·rw [J3 (by omega),Ka (Jb _)]
  simp [XM];omega
end
section
open Go.RowKit Ig
theorem XW {a b:Int} {m n:Nat} (h:sz a≤m) (k:sz b≤n):sz (a*b)≤m+n:=Nat.le_trans (Vo a b) (Nat.add_le_add h k)
theorem PS {a b:Int} {m n:Nat} (h:sz a≤m) (k:sz b≤n):sz (a+b)≤max m n+1:=by have:=Uk a b;omega
theorem Ym {a b:Int} (hb:b≠0):JO (Rat.divInt a b)≤max (sz a) (sz b):=by
 have key:∀ (x y:Int),0<y→JO (Rat.divInt x y)≤max (sz x) (sz y):=by
  intro x y hy
  have h:=Kv (x:=x) hy
  unfold JO
  rw [h.1,h.2]
  have h1:sz (x / (Int.gcd x y:Int))≤sz x:=KF (Int.natAbs_ediv_le_natAbs _ _)
  have h2:sz (y / (Int.gcd x y:Int))≤sz y:=KF (Int.natAbs_ediv_le_natAbs _ _)
  omega
 rcases Int.lt_or_gt_of_ne hb with h | h
 ·rw [← Rat.neg_divInt_neg]
  have:=key (-a) (-b) (by omega)
  rw [YQ,YQ] at this;exact this
 ·exact key a b h
theorem Yr (r:Rat):(r.den:Int)≠0:=by have:=den_pos r;omega
theorem GJ (r s:Rat):r+s=Rat.divInt (r.num*s.den+s.num*r.den) ((r.den:Int)*s.den):=by
 rw [Rat.add_def',← Rat.divInt_ofNat,Int.natCast_mul]
theorem GA (r s:Rat):r*s=Rat.divInt (r.num*s.num) ((r.den:Int)*s.den):=by
 rw [Rat.mul_def',← Rat.divInt_ofNat,Int.natCast_mul]
theorem Eo (r:Rat):JO (-r)=JO r:=by unfold JO;rw [Rat.neg_num,Rat.neg_den,YQ]
theorem Vc (r s:Rat):JO (r+s)≤JO r+JO s+1:=by
 rw [GJ]
 refine Nat.le_trans (Ym (Int.mul_ne_zero (Yr r) (Yr s))) ?_
 have h1:=PS (XW (Ji r) (Jd s)) (XW (Ji s) (Jd r))
 have h2:=XW (Jd r) (Jd s)
 omega
theorem XJ (r s:Rat):JO (r*s)≤JO r+JO s:=by
 rw [GA]
 refine Nat.le_trans (Ym (Int.mul_ne_zero (Yr r) (Yr s))) ?_
 have h1:=XW (Ji r) (Ji s)
 have h2:=XW (Jd r) (Jd s)
 omega
theorem Cx {r:Rat} (h:r.num≠0):JO r⁻¹≤JO r:=by
 rw [Rat.inv_def]
 have:=Ym (a:=(r.den:Int)) h
 unfold JO at this ⊢;omega
theorem Ep (n:Int):JO (n:Rat)≤max (sz n) 1:=by
 unfold JO;rw [Rat.num_intCast,Rat.den_intCast]
 have:sz ((1:Nat):Int)=1:=by decide
 omega
theorem Wm (r:Rat) (k:Nat):JO (r^k)≤k*JO r+1:=by
 unfold JO
 rw [Rat.num_pow,Rat.den_pow,Int.natCast_pow]
 have h1:=Hg r.num k
 have h2:=Hg (r.den:Int) k
 have h3:=Nat.mul_le_mul_left k (Nat.le_max_left (sz r.num) (sz (r.den:Int)))
 have h4:=Nat.mul_le_mul_left k (Nat.le_max_right (sz r.num) (sz (r.den:Int)))
 omega
theorem Mo (r:Rat):sz r.floor≤JO r:=by
 rw [Rat.floor_def]
 exact Nat.le_trans (KF (Int.natAbs_ediv_le_natAbs _ _)) (Ji r)
theorem KK {w:World} {F:Gs} {x y:Fr} {r s:Rat} (hF:Fits F w) (h:JV F x r) (h':JV F y s) (hr:JO r≤100000000) (hs:JO s≤100000000):ZE Tryz.prog 109 [x.v,y.v] w F (r*s):=by
 refine QT.intro (G:=fun F=>JV F x r∧JV F y s) Tryz.func109 rfl (by rfl) rfl rfl hF (fun F' hF'=>⟨h.le hF',h'.le hF'⟩)<|J_sr<|Q5 rfl (vs:=[_,_,_,_]) rfl (fun b2=>Q5 rfl (vs:=[_,_,_,_]) rfl (fun b3=>Qf Xp (fun b4=>JS_nt<|QG<|JR (.cons _ (.cons_cons _ (.cons_cons _ .slnil))) mixed (by kernel_rfl)<|QM (QI rfl ZJ QY)<|QM (QL (vs:=[_,_]) rfl QY (.there .here) (.here (.here .nil)) rfl)<|QM (QI rfl ZJ QY)<|QM (QL (vs:=[_,_]) rfl QY .here (.here (.here .nil)) rfl)<|Qg rfl (fun w F hF h9=>G8 hF h9.1.1 h9.2.1 (Nat.le_trans (Ji r) (by omega)) (Nat.le_trans (Ji s) (by omega))) (fun g9=>QM (QI rfl ZI QY)<|QM (QL (vs:=[_,_]) rfl QY (.there .here) (.skip (.skip (.here (.here .nil)))) rfl)<|QM (QI rfl ZI QY)<|QM (QL (vs:=[_,_]) rfl QY .here (.skip (.skip (.here (.here .nil)))) rfl)<|Qg rfl (fun w F hF h9=>G8 hF h9.1.1.2 h9.1.2.2 (Nat.le_trans (Jd r) (by omega)) (Nat.le_trans (Jd s) (by omega))) (fun g14=>Qg rfl (fun w F hF ⟨⟨⟨⟨hn,hd⟩,⟨kn,kd⟩⟩,h9⟩,h14⟩=>NG hF h9 h14 (Int.mul_ne_zero (Yr r) (Yr s)) (Nat.le_trans (XW (Ji r) (Ji s)) (by omega)) (Nat.le_trans (XW (Jd r) (Jd s)) (by omega))) (fun x15=>Jh (vs:=[_,_,_,_]) rfl rfl rfl Qe rfl .here (.cons_cons _ (.cons_cons _ .slnil)) (fun _ h=>h.1.1.1) (.here (.here (.here (.here .nil)))) ⟨rfl,rfl,rfl,rfl,trivial⟩<|Q9<|QC<|QS ?_))))))
 exact QR (_) rfl (.Jc (c:=[_,_,_,_]) rfl Qe .here .nil) rfl (fun F h9=>(by rw [GA];exact⟨h9.2.1,h9.2.2⟩))
theorem Is {r s:Rat} (h:(r.den:Int)=1) (k:(s.den:Int)=1):r+s=((r.num+s.num:Int):Rat):=by
 have h1:r.den=1:=by omega
 have k1:s.den=1:=by omega
 rw [Rat.add_def',h1,k1]
 apply Rat.ext
 ·rw [Rat.num_mkRat,Rat.num_intCast];simp
 ·rw [Rat.den_mkRat,Rat.den_intCast];simp
theorem EZ {w:World} {F:Gs} {x y:Fr} {r s:Rat} (hF:Fits F w) (h:JV F x r) (h':JV F y s) (hr:JO r≤100000000) (hs:JO s≤100000000):ZE Tryz.prog 131 [x.v,y.v] w F (r+s):=by
 refine QT.intro (G:=fun F=>JV F x r∧JV F y s) Tryz.func131 rfl (by rfl) rfl rfl hF (fun F' hF'=>⟨h.le hF',h'.le hF'⟩)<|J_sr<|Q5 rfl (vs:=[_,_,_,_]) rfl (fun b2=>Q5 rfl (vs:=[_,_,_,_]) rfl (fun b3=>Qf Xp (fun b4=>JS_nt<|QG ?_)))
 refine VR 10 (.bool (decide ((r.den:Int)=1)&&decide ((s.den:Int)=1))) ?_ ?_
 ·
  refine QB<|QA (QL (vs:=[_,_,_,_]) rfl Qe (.there (.there .here)) (.here (.here (.here (.here .nil)))) rfl)<|QH rfl (fun w F hF ⟨⟨hn,hd⟩,⟨kn,kd⟩⟩=>DU hF ⟨by assumption,by assumption⟩) (fun _=>JS_mv rfl ?_)
  refine Qn (t:=7) rfl (fun hb7=>?_) (fun hb7=>?_)
  ·
   refine QJ rfl rfl<|QA (QL (vs:=[_,_,_,_]) rfl Qe (.there .here) (.here (.here (.here (.here .nil)))) rfl)<|QJ rfl rfl<|QH rfl (fun w F hF ⟨⟨⟨hn,hd⟩,⟨kn,kd⟩⟩,_⟩=>DU hF ⟨by assumption,by assumption⟩) (fun _=>QA (Qj rfl rfl rfl)<|QE ?_)
   exact Jo (exd 7 rfl rfl) (by show some (Value.bool _)=some (Value.bool _);rw [hb7];rfl) subl_r (fun _ h=>h.1.1)
  ·
   refine QN rfl rfl rfl<|QN rfl rfl rfl<|QA (Qh rfl rfl rfl)<|QE ?_
   exact Jo (exd 7 rfl rfl) (by show some (Value.bool false)=some (Value.bool _);rw [hb7];rfl) subl_r (fun _ h=>h.1)
 ·
  refine QP rfl (fun hc=>?_) (fun hc=>?_)
  ·
   refine J_sr<|QA (QI rfl ZJ QY)<|QA (QL (vs:=[_,_]) rfl QY (.there (.there .here)) (.here (.here .nil)) rfl)<|QA (QI rfl ZJ QY)<|QA (QL (vs:=[_,_]) rfl QY (.there .here) (.here (.here .nil)) rfl)<|QH rfl (fun w F hF h9=>FR hF h9.1.1 h9.2.1 (Nat.le_trans (Ji r) (by omega)) (Nat.le_trans (Ji s) (by omega))) (fun g15=>QH rfl (fun w F hF ⟨⟨⟨hn,hd⟩,⟨kn,kd⟩⟩,h15⟩=>BB hF (by assumption)) (fun x16=>QQ (vs:=[_,_,_,_]) rfl rfl rfl Qe rfl .here (.here (.here (.here (.here .nil)))) ⟨rfl,rfl,rfl,rfl,trivial⟩<|JS_nt<|QS ?_))
   exact QR (_) rfl (.Jc (c:=[_,_,_,_]) rfl Qe .here .nil) rfl (fun F h9=>(by have hc2:(r.den:Int)=1∧(s.den:Int)=1:=(by simpa using hc);have e:(r+s:Rat)=((r.num+s.num:Int):Rat):=Is hc2.1 hc2.2;rw [e];exact⟨h9.2.1,h9.2.2⟩))
  ·
   refine QO<|QC<|QG<|JR (.cons _ (.cons_cons _ (.cons_cons _ .slnil))) mixed (by kernel_rfl)<|QM (QI rfl ZJ QY)<|QM (QL (vs:=[_,_]) rfl QY (.there .here) (.here (.here .nil)) rfl)<|QM (QI rfl ZI QY)<|QM (QL (vs:=[_,_]) rfl QY .here (.skip (.skip (.here (.here .nil)))) rfl)<|Qg rfl (fun w F hF h9=>G8 hF h9.1.1 h9.2.2 (Nat.le_trans (Ji r) (by omega)) (Nat.le_trans (Jd s) (by omega))) (fun g21=>QM (QI rfl ZJ QY)<|QM (QL (vs:=[_,_]) rfl QY .here (.here (.here .nil)) rfl)<|QM (QI rfl ZI QY)<|QM (QL (vs:=[_,_]) rfl QY (.there .here) (.skip (.skip (.here (.here .nil)))) rfl)<|Qg rfl (fun w F hF h9=>G8 hF h9.1.2.1 h9.1.1.2 (Nat.le_trans (Ji s) (by omega)) (Nat.le_trans (Jd r) (by omega))) (fun g26=>Qg rfl (fun w F hF h9=>FR hF h9.1.2 h9.2 (Nat.le_trans (XW (Ji r) (Jd s)) (by omega)) (Nat.le_trans (XW (Ji s) (Jd r)) (by omega))) (fun g27=>QM (QI rfl ZI QY)<|QM (QL (vs:=[_,_]) rfl QY (.there .here) (.skip (.skip (.here (.here .nil)))) rfl)<|QM (QI rfl ZI QY)<|QM (QL (vs:=[_,_]) rfl QY .here (.skip (.skip (.here (.here .nil)))) rfl)<|Qg rfl (fun w F hF h9=>G8 hF h9.1.1.1.1.2 h9.1.1.1.2.2 (Nat.le_trans (Jd r) (by omega)) (Nat.le_trans (Jd s) (by omega))) (fun g32=>Qg rfl (fun w F hF h9=>NG hF h9.1.2 h9.2 (Int.mul_ne_zero (Yr r) (Yr s)) (Nat.le_trans (PS (XW (Ji r) (Jd s)) (XW (Ji s) (Jd r))) (by omega)) (Nat.le_trans (XW (Jd r) (Jd s)) (by omega))) (fun x33=>Jh (vs:=[_,_,_,_]) rfl rfl rfl Qe rfl .here (.cons_cons _ (.cons_cons _ .slnil)) (fun _ h=>h.1.1.1.1.1) (.here (.here (.here (.here .nil)))) ⟨rfl,rfl,rfl,rfl,trivial⟩<|Q9<|QC<|QS ?_)))))
   exact QR (_) rfl (.Jc (c:=[_,_,_,_]) rfl Qe .here .nil) rfl (fun F h9=>(by rw [GJ];exact⟨h9.2.1,h9.2.2⟩))
theorem zu {w:World} {F:Gs} {x:Fr} {r:Rat} (hF:Fits F w) (h:JV F x r) (h0:r.num≠0) (hr:JO r≤100000000):ZE Tryz.prog 241 [x.v] w F r⁻¹:=by
 refine QT.intro (G:=fun F=>JV F x r) Tryz.func241 rfl (by rfl) rfl rfl hF (fun F' hF'=>h.le hF')<|J_sr<|Q5 rfl (vs:=[_,_,_,_]) rfl (fun b1=>Qf Xp (fun b2=>JS_nt<|J_sr<|QA (QI rfl ZI QY)<|QA (QL (vs:=[_,_]) rfl QY (.there .here) (.skip (.skip (.here (.here .nil)))) rfl)<|QA (QI rfl ZJ QY)<|QA (QL (vs:=[_,_]) rfl QY (.there .here) (.here (.here .nil)) rfl)<|QH rfl (fun w F hF h9=>NG hF h9.2 h9.1 h0 (Nat.le_trans (Jd r) (by omega)) (Nat.le_trans (Ji r) (by omega))) (fun x7=>QQ (vs:=[_,_,_,_]) rfl rfl rfl Qe rfl .here (.here (.here (.here (.here .nil)))) ⟨rfl,rfl,rfl,rfl,trivial⟩<|JS_nt<|QS ?_)))
 exact QR (_) rfl (.Jc (c:=[_,_,_,_]) rfl Qe .here .nil) rfl (fun F h9=>(by rw [Rat.inv_def];exact⟨h9.2.1,h9.2.2⟩))
theorem ua {w:World} {F:Gs} {x y:Fr} {r s:Rat} (hF:Fits F w) (h:JV F x r) (h':JV F y s) (h0:s.num≠0) (hr:JO r≤100000000) (hs:JO s≤100000000):ZE Tryz.prog 191 [x.v,y.v] w F (r / s):=by
 refine QT.intro (G:=fun F=>JV F x r∧JV F y s) Tryz.func191 rfl (by rfl) rfl rfl hF (fun F' hF'=>⟨h.le hF',h'.le hF'⟩)<|J_sr<|Q5 rfl (vs:=[_,_,_,_]) rfl (fun b2=>Q5 rfl (vs:=[_,_,_,_]) rfl (fun b3=>Qf Xp (fun b4=>JS_nt<|QG<|JR (.cons _ (.cons_cons _ (.cons_cons _ .slnil))) mixed (by kernel_rfl)<|QM (QL (vs:=[_,_,_,_]) rfl Qe (.there .here) (.here (.here (.here (.here .nil)))) rfl)<|QM (QL (vs:=[_,_,_,_]) rfl Qe .here (.here (.here (.here (.here .nil)))) rfl)<|Qg rfl (fun w F hF h9=>zu hF ⟨h9.2.1,h9.2.2⟩ h0 hs) (fun x7=>Qg rfl (fun w F hF h9=>KK hF ⟨h9.1.1.1,h9.1.1.2⟩ ⟨h9.2.1,h9.2.2⟩ hr (Nat.le_trans (Cx h0) hs)) (fun x8=>Jh (vs:=[_,_,_,_]) rfl rfl rfl Qe rfl .here (.cons_cons _ (.cons_cons _ .slnil)) (fun _ h=>h.1.1) (.here (.here (.here (.here .nil)))) ⟨rfl,rfl,rfl,rfl,trivial⟩<|Q9<|QC<|QS ?_)))))
 exact QR (_) rfl (.Jc (c:=[_,_,_,_]) rfl Qe .here .nil) rfl (fun F h9=>(by rw [Rat.div_def];exact⟨h9.2.1,h9.2.2⟩))
def DY (r s:Rat):Int:=if r<s then -1 else if r=s then 0 else 1
theorem jO (r s:Rat):ZU (r.num*s.den) (s.num*r.den)=DY r s:=by
 unfold DY
 rcases Int.lt_trichotomy (r.num*s.den) (s.num*r.den) with h | h | h
 ·rw [Vf h,if_pos ((Rat.lt_iff r s).2 h)]
 ·rw [h,E7,if_neg (by rw [Rat.lt_iff];omega),if_pos (Rat.eq_iff_mul_eq_mul.2 h)]
 ·rw [Gi h,if_neg (by rw [Rat.lt_iff];omega),if_neg (by rw [Rat.eq_iff_mul_eq_mul];omega)]
theorem AQ {w:World} {F:Gs} {x y:Fr} {r s:Rat} (hF:Fits F w) (h:JV F x r) (h':JV F y s) (hr:JO r≤100000000) (hs:JO s≤100000000):Qc Tryz.prog 123 [x.v,y.v] w F (.int .i64 (DY r s)):=by
 rw [← jO]
 refine QT.intro (G:=fun F=>JV F x r∧JV F y s) Tryz.func123 rfl (by rfl) rfl rfl hF (fun F' hF'=>⟨h.le hF',h'.le hF'⟩)<|J_sr<|Q5 rfl (vs:=[_,_,_,_]) rfl (fun b2=>Q5 rfl (vs:=[_,_,_,_]) rfl (fun b3=>JS_as rfl<|JS_nt<|QG<|JR subl_r mixed (by kernel_rfl)<|QM (QI rfl ZJ QY)<|QM (QL (vs:=[_,_]) rfl QY (.there .here) (.here (.here .nil)) rfl)<|QM (QI rfl ZI QY)<|QM (QL (vs:=[_,_]) rfl QY .here (.skip (.skip (.here (.here .nil)))) rfl)<|Qg rfl (fun w F hF h9=>G8 hF h9.1.1 h9.2.2 (Nat.le_trans (Ji r) (by omega)) (Nat.le_trans (Jd s) (by omega))) (fun g9=>QM (QI rfl ZJ QY)<|QM (QL (vs:=[_,_]) rfl QY .here (.here (.here .nil)) rfl)<|QM (QI rfl ZI QY)<|QM (QL (vs:=[_,_]) rfl QY (.there .here) (.skip (.skip (.here (.here .nil)))) rfl)<|Qg rfl (fun w F hF h9=>G8 hF h9.1.2.1 h9.1.1.2 (Nat.le_trans (Ji s) (by omega)) (Nat.le_trans (Jd r) (by omega))) (fun g14=>Qg rfl (fun w F hF ⟨⟨⟨⟨hn,hd⟩,⟨kn,kd⟩⟩,h9⟩,h14⟩=>gV hF h9 h14 (Nat.le_trans (XW (Ji r) (Jd s)) (by omega)) (Nat.le_trans (XW (Ji s) (Jd r)) (by omega))) (fun _=>QM (QF rfl)<|Q9<|QC<|QS ?_)))))
 exact F_r1 rfl rfl rfl (fun F h9=>trivial)
theorem NU {w:World} {F:Gs} {x:Fr} {r:Rat} (hF:Fits F w) (h:JV F x r) (hr:JO r≤100000000):Xe Tryz.prog 114 [x.v] w F r.floor:=by
 refine QT.intro (G:=fun F=>JV F x r) Tryz.func114 rfl (by rfl) rfl rfl hF (fun F' hF'=>h.le hF')<|J_sr<|Q5 rfl (vs:=[_,_,_,_]) rfl (fun b1=>Qf ZW (fun b2=>JS_nt<|J_sr<|QA (QI rfl ZJ QY)<|QA (QL (vs:=[_,_]) rfl QY (.there .here) (.here (.here .nil)) rfl)<|QA (QI rfl ZI QY)<|QA (QL (vs:=[_,_]) rfl QY (.there .here) (.skip (.skip (.here (.here .nil)))) rfl) ?_))
 refine QH rfl (fun w F hF h9=>Bm hF h9.1 h9.2 (den_pos r) (Nat.le_trans (Ji r) (by omega)) (Nat.le_trans (Jd r) (by omega))) (fun c10=>?_);rcases c10 with ⟨g10,g10_⟩;dsimp only
 refine JS_mv rfl<|QA (QK rfl rfl)<|QA (QK rfl rfl)<|Qf ZW (fun b3=>Qf ZW (fun b4=>QQ (vs:=[_,_]) rfl rfl rfl QY rfl (.there .here) (.here (.here .nil)) ⟨rfl,rfl,trivial⟩<|QQ (vs:=[_,_]) rfl rfl rfl QY rfl .here (.here (.here .nil)) ⟨rfl,rfl,trivial⟩<|JS_nt<|J_sr<|QA (QL (vs:=[_,_]) rfl QY (.there .here) (.here (.here .nil)) rfl)<|QQ (vs:=[_,_]) rfl rfl rfl QY rfl (.there (.there .here)) (.here (.here .nil)) ⟨rfl,rfl,trivial⟩<|JS_nt<|QS ?_))
 exact QR (_) rfl (.Jc (c:=[_,_]) rfl QY (.there (.there .here)) .nil) rfl (fun F h9=>(by rw [Rat.floor_def];exact h9.2.1))
theorem jD {w:World} {F:Gs} {x:Fr} {r:Rat} (hF:Fits F w) (h:JV F x r) (hr:JO r≤100000000):Xe Tryz.prog 115 [x.v] w F (-(-r).floor):=by
 refine QT.intro (G:=fun F=>JV F x r) Tryz.func115 rfl (by rfl) rfl rfl hF (fun F' hF'=>h.le hF')<|J_sr<|Q5 rfl (vs:=[_,_,_,_]) rfl (fun b1=>Qf ZW (fun b2=>JS_nt<|J_sr<|QA (QL (vs:=[_,_,_,_]) rfl Qe (.there .here) (.here (.here (.here (.here .nil)))) rfl)<|QH rfl (fun w F hF h9=>zt hF ⟨h9.1,h9.2⟩) (fun x4=>QH rfl (fun w F hF h9=>NU hF ⟨h9.2.1,h9.2.2⟩ (by rw [Eo];exact hr)) (fun g5=>QH rfl (fun w F hF ⟨⟨⟨hn,hd⟩,⟨h4,h4_⟩⟩,h5⟩=>D5 hF (by assumption)) (fun g6=>QQ (vs:=[_,_]) rfl rfl rfl QY rfl .here (.here (.here .nil)) ⟨rfl,rfl,trivial⟩<|JS_nt<|QS ?_)))))
 exact QR (_) rfl (.Jc (c:=[_,_]) rfl QY .here .nil) rfl (fun F h9=>h9.2)
theorem NM:(Rat.divInt 1 2).num=1∧((Rat.divInt 1 2).den:Int)=2:=by decide +kernel
theorem Sj:JO (Rat.divInt 1 2)≤2:=by decide +kernel
theorem Ou {w:World} {F:Gs} {x:Fr} {r:Rat} (hF:Fits F w) (h:JV F x r) (hr:JO r≤90000000):Xe Tryz.prog 112 [x.v] w F (r+Rat.divInt 1 2).floor:=by
 refine QT.intro (G:=fun F=>JV F x r) Tryz.func112 rfl (by rfl) rfl rfl hF (fun F' hF'=>h.le hF')<|J_sr<|Q5 rfl (vs:=[_,_,_,_]) rfl (fun b1=>Qf ZW (fun b2=>JS_nt<|QG<|JR (.cons _ (.cons_cons _ .slnil)) mixed (by kernel_rfl)<|QM (QL (vs:=[_,_,_,_]) rfl Qe .here (.here (.here (.here (.here .nil)))) rfl)<|Qg rfl (fun w F hF h9=>M9 hF (by omega) (by omega)) (fun g4=>Qg rfl (fun w F hF h9=>M9 hF (by omega) (by omega)) (fun g5=>QM (Q6 rfl Hl Xp (.cons (vs:=[_,_]) rfl rfl rfl (.here (.here .nil)) (.cons (vs:=[_,_]) rfl rfl rfl (.skip (.skip (.here (.here .nil)))) .nil)))<|Qg rfl (fun w F hF ⟨⟨⟨hn,hd⟩,h4⟩,h5⟩=>EZ (y:=⟨g4,g5⟩) (s:=Rat.divInt 1 2) hF ⟨hn,hd⟩ ⟨by rw [NM.1];exact h4,by rw [NM.2];exact h5⟩ (by omega) (by have:=Sj;omega)) (fun x7=>Qg rfl (fun w F hF h9=>NU hF ⟨h9.2.1,h9.2.2⟩ (by have:=Vc r (Rat.divInt 1 2);have:=Sj;omega)) (fun g8=>Jh (vs:=[_,_]) rfl rfl rfl QY rfl .here (.cons_cons _ .slnil) (fun _ h=>h.1.1.1.1) (.here (.here .nil)) ⟨rfl,rfl,trivial⟩<|Q9<|QC<|QS ?_))))))
 exact QR (_) rfl (.Jc (c:=[_,_]) rfl QY .here .nil) rfl (fun F h9=>h9.2)
theorem EY {w:World} {F:Gs} {x:Fr} {r:Rat} {k:Int} (hF:Fits F w) (h:JV F x r) (hk:0≤k) (hK:k≤9223372036854775807) (hz:k.toNat*JO r≤500000000):ZE Tryz.prog 225 [x.v,.int .i64 k] w F (r^k.toNat):=by
 refine QT.intro (G:=fun F=>JV F x r) Tryz.func225 rfl (by rfl) rfl rfl hF (fun F' hF'=>h.le hF')<|J_sr<|Q5 rfl (vs:=[_,_,_,_]) rfl (fun b2=>Qf Xp (fun b4=>JS_nt<|QG<|JR (.cons _ (.cons_cons _ .slnil)) mixed (by kernel_rfl)<|QM (QI rfl ZJ QY)<|QM (QL (vs:=[_,_]) rfl QY .here (.here (.here .nil)) rfl)<|QM (QD rfl)<|Qg rfl (fun w F hF h9=>TD hF h9.1 hk hK (Nat.le_trans (Nat.mul_le_mul_left _ (Ji r)) hz)) (fun g8=>QM (QI rfl ZI QY)<|QM (QL (vs:=[_,_]) rfl QY .here (.skip (.skip (.here (.here .nil)))) rfl)<|QM (QD rfl)<|Qg rfl (fun w F hF h9=>TD hF h9.1.2 hk hK (Nat.le_trans (Nat.mul_le_mul_left _ (Jd r)) hz)) (fun g12=>QM (Q6 rfl Hl Xp (.cons (vs:=[_,_]) rfl rfl rfl (.here (.here .nil)) (.cons (vs:=[_,_]) rfl rfl rfl (.skip (.skip (.here (.here .nil)))) .nil)))<|Jh (vs:=[_,_,_,_]) rfl rfl rfl Qe rfl .here (.cons_cons _ .slnil) (fun _ h=>h.1.1) (.here (.here (.here (.here .nil)))) ⟨rfl,rfl,rfl,rfl,trivial⟩<|Q9<|QC<|QS ?_))))
 exact QR (⟨g8,g12⟩) rfl (.Jc (c:=[_,_,_,_]) rfl Qe .here .nil) rfl (fun F h9=>⟨by rw [Rat.num_pow];exact h9.1.2,by rw [Rat.den_pow,Int.natCast_pow];exact h9.2⟩)
end
section
open Go.RowKit Ig
theorem YT.kind {w:World} {s:Int} {q:Option Addr} {n cap:Nat} {z:Int} (h:YT w s q n cap z):(q.isNone=true∧s=z∧-9223372036854775808≤z∧z≤9223372036854775807)∨(q.isNone=false∧¬ (-9223372036854775808≤z∧z≤9223372036854775807∧z≠-9223372036854775808)):=by
 rcases h with ⟨rfl,_,_,h1,h2,h3⟩ | ⟨b,off,l,rfl,_,_,_,_,_,_,_,hs,hz,hd⟩
 ·exact .inl ⟨rfl,h1,h2,h3⟩
 ·refine .inr ⟨rfl,?_⟩
  rcases hs with rfl | rfl<;>omega
theorem C1 {w:World} {F:Gs} {g:Bg} {a:Int} (hF:Fits F w) (h:Jq F g a):QT Tryz.prog 165 [g.v] w F (fun(c:Int×Bool)=>.tuple #[.int .i64 c.1,.bool c.2])
  (fun c _=>(c.2=true∧c.1=a∧-9223372036854775808≤a∧a≤9223372036854775807)∨(c.2=false∧¬ (-9223372036854775808≤a∧a≤9223372036854775807∧a≠-9223372036854775808))):=by
 have hk:=YT.kind (h w hF.r)
 refine QT.intro (G:=fun F=>Jq F g a) Tryz.func165 rfl (by rfl) rfl rfl hF (fun F' hF'=>h.le hF')<|J_sr<|Q5 rfl (vs:=[_,_]) rfl (fun b1=>JS_as rfl<|JS_as rfl<|JS_nt<|QG<|JR subl_r mixed (by kernel_rfl)<|QM (QI rfl Bi Qs)<|QM (Qo rfl Qs .here (.here .nil))<|QM (QI rfl Gg KX)<|QM (Qo rfl KX .here (.skip (.here .nil)))<|QM (Vx rfl rfl YR)<|QM (QF rfl)<|QM (QF rfl)<|Q9<|QC<|QS ?_)
 exact JX ((g.s,g.q.isNone)) rfl (.tmp rfl (.tmp rfl .nil)) rfl (fun F _=>hk)
theorem Ay {P:Program} {N:Nat} {m:Sl} {w0:World} {F0:Gs} {bs:List (Nat×Obj)} {G:Gs→Prop} {ty T:TypeId} {x:Operand} {b off n k cap i:Nat} {l:List Int} (hx:ev m x=some (.pointer (some ⟨b,off+i*1,none⟩))) (ht:YA P T=some (false,n)) (hr:∀ F,G F→KT F ⟨some ⟨b,off,none⟩,k,cap⟩ l) (hi:i<l.length) :
  Qt P N m (St ⟨w0,F0,bs,G⟩) (.load T x) ty (.int .u64 (l.getD i 0)):=fun a w _ _ _ _ ha hw=>by
 obtain ⟨F,hw⟩:=hw
 obtain ⟨q,cap',e,_,_,hc⟩:=(hr F hw.hG).1 w hw.fits.r
 obtain ⟨b',off',e1,_,e2⟩:=hc i hi
 simp only [Sr.v,Value.slice.injEq] at e
 have e3:=e.1.trans e1
 simp only [Option.some.injEq,Addr.mk.injEq] at e3
 obtain ⟨rfl,rfl,_⟩:=e3
 have hc':w.cell? ⟨b,off+i*1,none⟩=some (.int .u64 (l.getD i 0)):=by rw [Nat.mul_one];exact e2
 have hrun:=ZZ (P:=P) ht hc'
 simp at hrun
 simp [execOp,ha.ev hx,Instr.loadAt,Instr.sureAddr,hrun]
theorem KT.at {F:Gs} {r:Sr} {l:List Int} (h:KT F r l) {w:World} (hw:Fits F w) (hl:l≠[]):r.n=l.length∧∃ b off,r.q=some ⟨b,off,none⟩:=by
 obtain ⟨q,cap,e,_,_,hc⟩:=h.1 w hw.r
 have hlen:0<l.length:=by cases l with | nil=>exact absurd rfl hl | cons=>simp
 obtain ⟨b,off,e1,_,_⟩:=hc 0 hlen
 simp only [Sr.v,Value.slice.injEq] at e
 exact⟨e.2.1,b,off,e.1.trans e1⟩
theorem KT.len {F:Gs} {r:Sr} {l:List Int} (h:KT F r l) {w:World} (hw:Fits F w):r.n=l.length:=by
 obtain ⟨q,cap,e,_,_,hc⟩:=h.1 w hw.r
 simp only [Sr.v,Value.slice.injEq] at e
 exact e.2.1
theorem Lf {z:Int} {k:Nat} (h1:2^k≤z.natAbs) (h2:z.natAbs<2^(k+1)):sz z=k+1:=by
 have a:=(Xv z (k+1)).2 h2
 have b:¬ sz z≤k:=fun h=>by have:=(Xv z k).1 h;omega
 omega
theorem Il {l:List Int} (hd:DG W l) (hn:NZ l) (hl:l≠[]) {a:Int} (ha:dv W l=Je a):sz a=64*(l.length - 1)+Lib.bitLen (l.getD (l.length - 1) 0).toNat∧Lib.bitLen (l.getD (l.length - 1) 0).toNat≤64:=by
 rcases Mq l with h | ⟨m,x,rfl⟩
 ·exact absurd h hl
 ·have hx:=hd x (by simp)
  have hx0:x≠0:=by intro e;subst e;simp [NZ] at hn
  have hm:DG W m:=hd.left
  have e1:((m++[x]).getD ((m++[x]).length - 1) 0)=x:=by simp
  rw [e1]
  have e2:(m++[x]).length - 1=m.length:=by simp
  rw [e2]
  have hW:W=18446744073709551616:=rfl
  obtain ⟨y,rfl⟩:=Int.eq_ofNat_of_zero_le hx.1
  rw [Int.toNat_natCast]
  have hy1:y<2^64:=by have:=hx.2;rw [hW] at this;omega
  obtain ⟨g1,g2,g3⟩:=Lib.bitLenAux_bounds 64 y hy1 (by omega)
  change 1≤Lib.bitLen y at g1
  change 2^(Lib.bitLen y - 1)≤y at g2
  change y<2^Lib.bitLen y at g3
  have g4:Lib.bitLen y≤64:=Lib.bitLen_le y 64 (by omega) hy1
  refine⟨?_,g4⟩
  rw [XS] at ha
  have h0:=Qu (by decide:(0:Int)<W) hm
  have h1:=Z1 (by decide:(0:Int)<W) hm
  obtain ⟨d,hd'⟩:=Int.eq_ofNat_of_zero_le h0
  have hWp:W^m.length=((2^(64*m.length):Nat):Int):=by
   rw [hW,Nat.pow_mul];simp
  rw [hWp] at ha h1
  rw [hd'] at ha h1
  have hna:a.natAbs=d+2^(64*m.length)*y:=by
   have:((a.natAbs:Nat):Int)=((d+2^(64*m.length)*y:Nat):Int):=by
    rw [← KC,← ha];simp
   exact Int.ofNat.inj this
  have hlt:d<2^(64*m.length):=by omega
  obtain ⟨k,hk⟩:∃ k,Lib.bitLen y=k+1:=⟨_,(Nat.sub_add_cancel g1).symm⟩
  rw [hk] at g2 g3 ⊢
  rw [Nat.add_sub_cancel] at g2
  have hp:2^(64*m.length+k)=2^(64*m.length)*2^k:=Nat.pow_add _ _ _
  have hp':2^(64*m.length+k+1)=2^(64*m.length)*2^(k+1):=by rw [Nat.add_assoc,Nat.pow_add]
  refine Lf (k:=64*m.length+k) ?_ ?_
  ·rw [hna,hp]
   exact Nat.le_trans (Nat.mul_le_mul_left _ g2) (Nat.le_add_left _ _)
  ·rw [hna,hp']
   have h2:2^(64*m.length)*(y+1)≤2^(64*m.length)*2^(k+1):=Nat.mul_le_mul_left _ g3
   rw [Nat.mul_add] at h2
   omega
theorem yL {w:World} {F:Gs} {g:Bg} {a:Int} (hF:Fits F w) (h:Jq F g a) (hza:sz a≤1000000000):Qc Tryz.prog 276 [g.v] w F (.int .i64 (sz a)):=by
 refine QT.intro (G:=fun F=>Jq F g a) Tryz.func276 rfl (by rfl) rfl rfl hF (fun F' hF'=>h.le hF')<|J_sr<|Q5 rfl (vs:=[_,_]) rfl (fun b1=>JS_as rfl<|JS_nt<|J_sr<|QA (QL (vs:=[_,_]) rfl QY .here (.here (.here .nil)) rfl) ?_)
 refine QH rfl (fun w F hF hG0=>Ew hF (by assumption)) (fun c7=>?_);rcases c7 with ⟨v7,l7⟩;dsimp only
 refine JH _ (fun w F hF ⟨hG0,⟨h7,h7p⟩⟩=>And.intro h7.2 h7p) (fun p7=>JH _ (fun w F hF h9=>h9.2.1.len hF) (fun hl7=>?_))
 have hlen7:=Xt p7.1.1 p7.1.2 p7.2 hza
 try dsimp only at hl7
 refine JS_mv rfl<|QA (QK rfl rfl)<|QA (QK rfl rfl)<|JS_as rfl<|JS_as rfl<|JS_nt<|QG<|J_sr<|JS_mv rfl<|QA (Qi rfl YR)<|QA (QU rfl rfl rfl)<|QE<|QC ?_
 refine QP rfl (fun hc=>?_) (fun hc=>?_)
 ·
  refine J_sr<|JS_as rfl<|JS_nt<|QS ?_
  exact QR () rfl (.tmp rfl .nil) (by have h0:l7=[]:=List.eq_nil_of_length_eq_zero (by simp at hc;omega);have e:=p7.2;rw [h0] at e;have:a=0:=(by have:=KC a;simp at e;omega);subst this;rfl) (fun _ _=>trivial)
 ·
  refine QO<|QC<|QG<|QB ?_
  have hne:l7≠[]:=by rintro rfl;simp at hc;simp at hl7;omega
  have hpos:0<l7.length:=by cases l7 with | nil=>exact absurd rfl hne | cons=>simp
  have hsp:=Il p7.1.1 p7.1.2 hne p7.2
  refine JH _ (fun w F hF h9=>(h9.2.1.at hF hne).2) (fun hq7=>?_)
  obtain ⟨qb,qo,hq7⟩:=hq7
  obtain ⟨vq,vn,vcap⟩:=v7
  try dsimp only at hq7 hl7
  subst hq7;subst hl7
  dsimp only
  refine JS_mv rfl<|QA (Qi rfl YR)<|QA (J7 rfl rfl (by omega))<|QA (Wo rfl rfl (by omega))<|JS_mv rfl<|JS_mv rfl<|QA (Qi rfl YR)<|QA (J7 rfl rfl (by omega))<|QA (Qw (i:=l7.length - 1) rfl (congrArg (fun z:Int=>some (Value.int .i64 z)) (by omega)) YR Mg (by omega))<|QA (Ay rfl Mg (fun F h9=>h9.2.1) (by omega))<|QH rfl (fun w F hF h9=>qZ hF (p7.1.1.getD (by decide) _).1 (by have:=(p7.1.1.getD (by decide) (l7.length - 1)).2;have hW:W=18446744073709551616:=rfl;omega)) (fun _=>QA (Qp rfl rfl (by omega))<|JS_as rfl<|JS_nt<|QS ?_)
  exact QR () rfl (.tmp rfl .nil) (congrArg (Value.int .i64) (by have:=hsp.1;omega)) (fun _ _=>trivial)
theorem VG {l:List UInt8} (h:XH l=true):sz (JB l:Int)≤4*l.length:=by
 rw [Xv,Int.natAbs_natCast,Nat.pow_mul]
 exact Nat.lt_of_lt_of_le (Vv h) (Nat.pow_le_pow_left (by decide) _)
theorem vp (n:Nat):(if(n:Int)<18 then(n:Int) else 18)=((min 18 n:Nat):Int):=by split<;>omega
theorem Us {l:List UInt8} {k n:Nat}:JB (l.take (k+n))=JB (l.take k)*10^((l.drop k).take n).length+JB ((l.drop k).take n):=by
 rw [← Z4,List.take_add]
theorem Mn (k:Nat):sz ((10:Int)^k)≤4*k+1:=by have:=Hg 10 k;rw [show sz 10=4 by decide] at this;omega
structure xi (n:Nat) where
 k:Nat
 g:Bg
 le:k≤n
theorem W5 {w:World} {F:Gs} {s:List UInt8} (hF:Fits F w) (hs:XH (Lib.trimPrefix s [45])=true) (hl:s.length≤10000000):Xe Tryz.prog 164 [tx s] w F (Zz s):=by
 have hll:(Lib.trimPrefix s [45]).length≤s.length:=by unfold Lib.trimPrefix;split<;>simp
 have hval:Zz s=if Lib.hasPrefix s [45] then -(JB (Lib.trimPrefix s [45]):Int) else(JB (Lib.trimPrefix s [45]):Int):=by
  unfold Zz Lib.trimPrefix;split<;>simp_all
 rw [hval]
 refine QT.intro (G:=fun _=>True) Tryz.func164 rfl (by rfl) rfl rfl hF (fun F' hF'=>trivial)<|J_sr<|Qf ZW (fun b2=>JS_nt<|J_sr<|JS_mv rfl<|QH rfl (fun w F hF _=>Tr hF ) (fun _=>JS_as rfl<|JS_nt<|J_sr<|JS_mv rfl<|QH rfl (fun w F hF h9=>BD hF ) (fun _=>JS_as rfl<|JS_nt<|J_sr<|QA (Q6 rfl zK ZW .nil)<|Qf ZW (fun b4=>QQ (vs:=[_,_]) rfl rfl rfl QY rfl .here (.here (.here .nil)) ⟨rfl,rfl,trivial⟩ ?_))))
 refine JS_nt<|QG<|QX ?_
 generalize Lib.trimPrefix s [45]=l at *
 refine Xa (ι:=xi l.length) (fun i=>[(0,tx (l.drop i.k)),(2,.pointer (some ⟨b2,0,none⟩)),(4,.pointer (some ⟨b4,0,none⟩)),(3,.bool (Lib.hasPrefix s [45]))]) (fun i=>[(b4,.cells #[.int .i64 i.g.s,.slice i.g.q i.g.n i.g.cap] 128 (0,0)),(b2,.cells #[.int .i64 0,.slice none 0 0] 128 (0,0))]) (fun i F=>Jq F i.g (JB (l.take i.k))) (fun i=>l.length - i.k)
  ⟨0,⟨0,none,0,0⟩,Nat.zero_le _⟩ ⟨rfl,rfl,rfl,rfl,trivial⟩ subl_r (fun F _=>Jq.small F (by decide) (by decide)) (fun i=>?_)
 refine QG<|J_sr<|JS_mv rfl<|QA (XA rfl Xn)<|QA (QU rfl rfl rfl)<|QE<|QC ?_
 refine QP rfl (fun hc=>?_) (fun hc=>?_)
 ·
  refine QO<|QC<|QX<|J_sr<|JS_mv rfl<|QA (XA rfl Xn)<|QA (Cd rfl rfl) ?_
  rw [vp]
  have hk0:i.k<l.length:=by simp at hc;omega
  have hpl:((l.drop i.k).take (min 18 (l.drop i.k).length)).length=min 18 (l.drop i.k).length:=by simp
  have hpa:XH ((l.drop i.k).take (min 18 (l.drop i.k).length))=true:=Gk (Dc hs _) _
  have hp18:=Vv hpa
  have hpz:(10:Nat)^((l.drop i.k).take (min 18 (l.drop i.k).length)).length≤10^18:=Nat.pow_le_pow_right (by decide) (by omega)
  have hm0:0<min 18 (l.drop i.k).length:=by simp;omega
  have hsk:sz (JB (l.take i.k):Int)≤40000000:=Nat.le_trans (VG (Gk hs _)) (by simp;omega)
  refine JS_as rfl<|JS_nt<|J_sr<|JS_mv rfl<|JS_mv rfl<|QA (Ha (min 18 (l.drop i.k).length) rfl rfl Xn rfl (by omega))<|QH rfl (fun w F hF hO=>yN hF (by omega) (Iq hpa (by intro e;rw [e] at hpl;simp at hpl;omega))) (fun _=>JS_mv rfl<|QA (QK rfl rfl)<|QA (QK rfl rfl)<|JS_as rfl<|JS_as rfl<|JS_nt<|QG<|Xo 8 subl_r mixed (by kernel_rfl) (by kernel_rfl) ?_)
  simp only [List.take_succ_cons,List.take_zero,List.drop_succ_cons,List.drop_zero]
  refine QM (QL (vs:=[_,_]) rfl QY .here (.here (.here .nil)) rfl)<|Qg rfl (fun w F hF h9=>M9 hF (by omega) (by omega)) (fun g27=>QM (QD rfl)<|Qg rfl (fun w F hF h9=>TD hF h9.2 (by omega) (by omega) (by rw [Int.toNat_natCast,show sz 10=4 by decide];omega)) (fun g29=>Qg rfl (fun w F hF h9=>G8 hF h9.1.1.1 h9.2 (by omega) (by rw [Int.toNat_natCast];exact Nat.le_trans (Mn _) (by omega))) (fun g30=>QM (QD rfl)<|Qg rfl (fun w F hF h9=>M9 hF (by omega) (by omega)) (fun g32=>Qg rfl (fun w F hF h9=>FR hF h9.1.2 h9.2 (Nat.le_trans (XW hsk (Mn _)) (by rw [Int.toNat_natCast];omega)) (Nat.le_trans (VG hpa) (by omega))) (fun g33=>K6<|QQ (vs:=[_,_]) rfl rfl rfl QY rfl .here (.here (.here .nil)) ⟨rfl,rfl,trivial⟩<|JS_nt<|QB<|JS_mv rfl<|JS_mv rfl<|QA (Kr (min 18 (l.drop i.k).length) rfl rfl Xn rfl (by omega))<|JS_as rfl<|QE<|Qk ?_)))))
  refine Ql (⟨i.k+min 18 (l.drop i.k).length,g33,by simp;omega⟩:xi l.length) (by simp;omega) ⟨(by show some (tx _)=some (tx _);simp),rfl,rfl,rfl,trivial⟩ subl_r (fun F ⟨_,h33⟩=>by
   show Jq F g33 (JB (l.take (i.k+min 18 (l.drop i.k).length)):Int)
   rw [Us]
   rw [Int.toNat_natCast] at h33
   have e:((l.drop i.k).take (min 18 (l.drop i.k).length)).length=min 18 (l.drop i.k).length:=by simp
   rw [e,Int.natCast_add,Int.natCast_mul,Int.natCast_pow];exact h33)
 ·
  refine Qy ?_
  repeat (first | refine QZ ?_ | refine QV (by rfl) ?_)
  refine Qa<|QC<|QG<|J_sr<|JS_mv rfl<|QE<|QC ?_
  have hdone:l.take i.k=l:=List.take_of_length_le (by have:=i.le;simp at hc;omega)
  clear hc
  refine QP rfl (fun hc=>?_) (fun hc=>?_)
  ·
   refine J_sr<|QA (QL (vs:=[_,_]) rfl QY .here (.here (.here .nil)) rfl)<|QH rfl (fun w F hF hO=>D5 hF hO) (fun g39=>QQ (vs:=[_,_]) rfl rfl rfl QY rfl (.there .here) (.here (.here .nil)) ⟨rfl,rfl,trivial⟩<|JS_nt<|QS ?_)
   exact QR (_) rfl (.Jc (c:=[_,_]) rfl QY (.there .here) .nil) rfl (fun F ⟨hO,h39⟩=>(by rw [hdone] at h39;rw [if_pos hc];exact h39))
  ·
   refine QO<|QC<|J_sr<|QA (QL (vs:=[_,_]) rfl QY .here (.here (.here .nil)) rfl)<|QQ (vs:=[_,_]) rfl rfl rfl QY rfl (.there .here) (.here (.here .nil)) ⟨rfl,rfl,trivial⟩<|JS_nt<|QS ?_
   exact QR (_) rfl (.Jc (c:=[_,_]) rfl QY (.there .here) .nil) rfl (fun F hO=>(by rw [hdone] at hO;rw [if_neg (by simp [hc])];exact hO))
end
section
open Go.RowKit Ig
section
variable [Dr] [df:Df] {P:Program} {Q:Exit→Act→World→Prop} {N:Nat} {m:Sl} {E E0:Env} {ops:Array Oper} {l:List Oper} {w0:World} {F0:Gs} {bs:List (Nat×Obj)} {G:Gs→Prop}
theorem St.CA {w:World} (h:St ⟨w0,F0,bs,G⟩ w) (c:Array Value) (T:TypeId):St ⟨w0,F0,bs,fun F=>G F∧F w.heap.size=some (c,T)⟩ (w.alloc (.cells c T)):=by
 obtain ⟨F,h⟩:=h
 have hnone:=h.fits.none (Nat.le_refl w.heap.size)
 have hle:Gs.le F (fun i=>if i=w.heap.size then some (c,T) else F i):=fun i x hx=>by
  by_cases e:i=w.heap.size
  ·subst e;rw [hnone] at hx;cases hx
  ·show(if _ then _ else _)=_
   rw [if_neg e];exact hx
 have hnew:(w.alloc (.cells c T)).heap[w.heap.size]?=some (.cells c T):=by show(w.heap.push _)[_]?=_;simp
 refine⟨_,Gs.le_trans h.le hle,fun b hb=>?_,⟨fun b c' T' hb=>?_,fun b c' fr hb=>?_⟩,h.ext.alloc _,fun k hk=>?_,h.nd,fun F' hF'=>⟨h.g F' (Gs.le_trans hle hF'),hF' _ _ (if_pos rfl)⟩⟩
 ·have hb2:b<w.heap.size:=Nat.lt_of_lt_of_le hb h.ext.size
  rw [if_neg (by omega)];exact h.old b hb
 ·by_cases e:b=w.heap.size
  ·subst e;rw [if_pos rfl] at hb;cases hb;exact⟨_,hnew⟩
  ·rw [if_neg e] at hb
   obtain ⟨fr,e2⟩:=h.fits.row b c' T' hb
   exact⟨fr,by rw [Below.heap_alloc _ _ _ (h.fits.lt hb)];exact e2⟩
 ·by_cases e:b=w.heap.size
  ·subst e;rw [hnew] at hb;cases hb;show(if _ then _ else _)=_;rw [if_pos rfl]
  ·show(if _ then _ else _)=_
   rw [if_neg e]
   have hlt:b<w.heap.size:=by
    rcases Nat.lt_or_ge b w.heap.size with g | g
    ·exact g
    ·exfalso
     have:(w.heap.push (.cells c T))[b]?=some (.cells c' 248 fr):=hb
     rw [Array.getElem?_eq_none (by simp;omega)] at this;cases this
   rw [Below.heap_alloc _ _ _ hlt] at hb
   exact h.fits.all b c' fr hb
 ·obtain ⟨h1,h2,h3⟩:=h.bx k hk
  have hlt:k.1<w.heap.size:=by
   rcases Nat.lt_or_ge k.1 w.heap.size with g | g
   ·exact g
   ·rw [Array.getElem?_eq_none g] at h1;cases h1
  exact⟨by rw [Below.heap_alloc _ _ _ hlt];exact h1,h2,by rw [if_neg (by omega)];exact h3⟩
section
variable {d:Nat} {ty:TypeId} {pos:String} {aft:Array Edge}
theorem QW {t e:TypeId} {n sz:Nat} {z:List Value} {g:Bool} {parts:Array (Nat×Operand)} {ps:List (Nat×Value)} {cs:List Value} (hp:Vp m parts.toList=some ps) (ht:P.underlying t=some (.slice e)) (hs:YA P e=some (g,sz)) (hz:XI P e=some z)
  (hc:Yo sz 0 ps=some cs) (hl:cs.length=n*sz) (k:∀ b,JS P ops Q l N ((d,.slice (some ⟨b,0,none⟩) n n)::m) ⟨w0,F0,bs,fun F=>G F∧F b=some (cs.toArray,e)⟩) (h24:Nat.ble (n*sz) 16777216=true:=by rfl) (hn:Nat.beq (n*sz) 0=false:=by rfl)
  (hd:J4 N (some d)=true:=by rfl):JS P ops Q (⟨some d,.buildSlice t n parts,ty,pos,aft,none⟩::l) N m ⟨w0,F0,bs,G⟩:=fun a w ha hw =>
 wpList_plain rfl fun _ hK=>upon_value (Y5 ha hp ht hs hz hc hl h24 hn) (hK _ _ (k _ _ _ (ha.put hd _) (hw.CA _ _)))
theorem VT {t e:TypeId} {sz bytes n k:Nat} {z:List Value} {g:Bool} {X Y:Operand} {x y:Value} {olds news:List Value} {ob bs1:List (Nat×Obj)} (hx:ev m X=some x) (hy:ev m Y=some y) (ht:H2 P t=some e) (hs:YA P e=some (g,sz)) (hz:XI P e=some z) (hzl:z.length=sz) (hby:YJ P e=some bytes)
  (hr:Qz e sz x n olds ob) (hs2:Src ⟨w0,F0,bs1++ob,G⟩ sz y k news) (h63:n+k≤9223372036854775807) (h47:(n+k)*bytes≤140737488355328) (h1:∀ v∈news,v.oneCell'=true)
  (kk:∀ v' ob',Qz e sz v' (n+k) (olds++news) ob'→JS P ops Q l N ((d,v')::m) ⟨w0,F0,bs1++ob',G⟩) (hu:WJ e=true:=by rfl) (hd:J4 N (some d)=true:=by rfl) :
  JS P ops Q (⟨some d,.call ⟨.builtin .append,#[X,Y],#[t,t]⟩,ty,pos,aft,none⟩::l) N m ⟨w0,F0,bs1++ob,G⟩ :=
 X9 List.perm_append_comm (Di hx hy ht hs hz hzl hby hr ⟨hs2.len,hs2.rd.imp id fun⟨a,c,e1,e2⟩=>⟨a,c,e1,fun w hw=>e2 w (hw.perm List.perm_append_comm)⟩⟩ h63 h47 h1
  (fun v' ob' h=>X9 List.perm_append_comm (kk v' ob' h)) hu hd)
end
theorem Own.skip {l:List (Nat×Obj)} {b:Nat} {o:Obj} {f:Obj→List (Nat×Obj)} (h:Own l b o f):∀ p:List (Nat×Obj),Own (p++l) b o (fun o'=>p++f o')
 |[]=>h
 |_::p=>.there (h.skip p)
theorem Fu {T e ty:TypeId} {sz n n' i:Nat} {x:Operand} {v:Value} {cs:List Value} {ob:List (Nat×Obj)} {u:Value} {b:Nat} (hr:Qz e sz v n cs ob) (hm:∀ k∈ob,k∈bs) (hb:v = .slice (some ⟨b,0,none⟩) n n') (hx:ev m x=some (.pointer (some ⟨b,0+i*1,none⟩))) (ht:YA P T=some (false,1)) (hu:cs[i]?=some u) :
  Qt P N m (St ⟨w0,F0,bs,G⟩) (.load T x) ty u:=fun a w _ _ _ _ ha hw=>by
 obtain ⟨F,hw⟩:=hw
 cases hr with
 |nil=>simp at hu
 |some g1 g2 g3 g4 =>
  rename_i b' cap rest
  simp only [Value.slice.injEq,Option.some.injEq,Addr.mk.injEq] at hb
  have hbb:=hb.1.1
  subst hbb
  have hi:i<cs.length:=by rcases Nat.lt_or_ge i cs.length with h | h;exact h;rw [List.getElem?_eq_none h] at hu;cases hu
  have hc:w.cell? ⟨b',0+i*1,none⟩=some u:=by
   rw [Xu (hw.bx (b',.cells (cs++rest).toArray e (0,0)) (hm _ (by simp))).1,Nat.zero_add,Nat.mul_one,List.getElem?_append,if_pos hi];exact hu
  have hrun:=ZZ (P:=P) ht hc
  simp only [execOp,ha.ev hx,Instr.loadAt,Instr.sureAddr,Sem.run_bind,Sem.run_pure,Result.andThen_ok,hrun]
end
end
section
open Go.RowKit Ig
def hd (q:Nat):List UInt8:=if q=0 then [] else Lib.decDigits q
theorem q8 {n:Nat} (h:0<n):hd n=hd (n / 10^18)++(if n / 10^18=0 then Lib.decDigits (n%10^18) else VW 18 (Lib.decDigits (n%10^18))):=by
 unfold hd
 rw [if_neg (by omega)]
 split
 ·rename_i h0
  rw [List.nil_append];congr 1;omega
 ·rename_i h0
  rw [← Kb (by omega) 18 _ (by decide) (Nat.mod_lt _ (by decide))]
  congr 1
  rw [Nat.mul_comm];exact(Nat.div_add_mod n (10^18)).symm
theorem F7 {l:List Int} (hd:DG W l) (hn:NZ l) (h:dv W l<W):(l=[]∨l=[dv W l]):=by
 cases l with
 |nil=>exact .inl rfl
 |cons x r =>
  cases r with
  |nil=>right;simp
  |cons y r =>
   exfalso
   have:=Bk (by decide:(0:Int)<W) hd hn (by simp)
   have h2:=KH (b:=W) (by decide) (show 1≤(x::y::r).length - 1 by simp)
   rw [Int.pow_one] at h2;omega
structure Iw (n:Nat) where
 l:List Int
 r:Sr
 ps:List (List UInt8)
 v:Value
 ob:List (Nat×Obj)
 dg:DG W l
 nz:NZ l
 le:(dv W l).toNat≤n
 hr:Qz 9 1 v ps.length (ps.map tx) ob
 ne:∀ p∈ps,p≠[]
 inv:hd (dv W l).toNat++ps.reverse.flatten=hd n
theorem Tw:∀ {ps:List (List UInt8)},(∀ p∈ps,p≠[])→ps.length≤ps.flatten.length
 |[],_=>by simp
 |p::ps,h=>by
  have h1:=Tw (ps:=ps) (fun q hq=>h q (by simp [hq]))
  have h2:0<p.length:=by
   have:=h p (by simp)
   cases p with | nil=>exact absurd rfl this | cons=>simp
  simp [List.length_flatten] at h1 ⊢;omega
theorem On {n k:Nat} (h:n<2^k):(hd n).length≤k:=by
 unfold hd;split
 ·simp
 ·rename_i h0
  rw [Lib.decDigits_length]
  have hk:0<k:=by rcases Nat.eq_zero_or_pos k with e | e;subst e;simp at h;omega;exact e
  exact Za (Nat.lt_of_lt_of_le h (Nat.pow_le_pow_left (by decide) k)) hk
theorem Rb (ps:List (List UInt8)):ps.reverse.flatten.length=ps.flatten.length:=by
 induction ps with
 |nil=>rfl
 |cons p ps ih=>simp [List.flatten_append];simp [List.length_flatten] at ih ⊢;omega
theorem Iw.cV {n k:Nat} (i:Iw n) (h:n<2^k):i.ps.length≤k:=by
 have h1:=Tw i.ne
 have h2:=congrArg List.length i.inv
 rw [List.length_append,Rb] at h2
 have h3:=On h
 omega
theorem zO {l:List UInt8} (h:l≠[]):VW 18 l≠[]:=by
 unfold VW;simp [h]
def Iw.next {n:Nat} (i:Iw n) (hl:i.l≠[]) (q:List Int) (rq:Sr) (v':Value) (ob':List (Nat×Obj)) (s:List UInt8) (hdq:DG W q) (hnq:NZ q) (hq:(dv W q).toNat=(dv W i.l).toNat / 10^18)
  (hs:s=if(dv W q).toNat=0 then Lib.decDigits ((dv W i.l).toNat%10^18) else VW 18 (Lib.decDigits ((dv W i.l).toNat%10^18)))
  (hr:Qz 9 1 v' (i.ps.length+1) (i.ps.map tx++[tx s]) ob'):Iw n where
 l:=q
 r:=rq
 ps:=i.ps++[s]
 v:=v'
 ob:=ob'
 dg:=hdq
 nz:=hnq
 le:=by have:=i.le;have:=Nat.div_le_self (dv W i.l).toNat (10^18);omega
 hr:=by simpa using hr
 ne:=by
  intro p hp
  rcases List.mem_append.1 hp with h | h
  ·exact i.ne p h
  ·rw [List.mem_singleton.1 h,hs];split
   ·exact Kw _
   ·exact zO (Kw _)
 inv:=by
  have h0:0<(dv W i.l).toNat:=by
   have h1:=Qu (by decide:(0:Int)<W) i.dg
   have h2:=mt (Yq (by decide:(1:Int)<W) i.dg i.nz).1 hl
   omega
  rw [← i.inv,q8 h0,← hq,hs]
  simp [List.flatten_append]
theorem O0 {q l:List Int} {b:Int} (hb:b=1000000000000000000) (h:dv W q=dv W l / b) (h0:0≤dv W l):(dv W q).toNat=(dv W l).toNat / 10^18:=by
 subst hb;rw [h];omega
theorem jF {r l:List Int} {b:Int} (hb:b=1000000000000000000) (h:dv W r=dv W l%b) (h0:0≤dv W l):(dv W r).toNat=(dv W l).toNat%10^18∧dv W r<1000000000000000000∧0≤dv W r:=by
 subst hb;rw [h];omega
structure CG (b:Nat) (pre:List UInt8) (ps:List (List UInt8)) where
 k:Nat
 jk:List (Nat×Obj)
 le:k≤ps.length
 bl:UT b (pre++(ps.drop k).reverse.flatten) jk
theorem qS {a:Int} (h:a≠0):(if a<0 then [45] else [])++hd a.natAbs=X0 a:=by
 have h0:a.natAbs≠0:=by omega
 unfold hd;rw [if_neg h0]
 by_cases h1:a<0
 ·rw [if_pos h1,YI h1];rfl
 ·rw [if_neg h1,J3 (by omega)];rfl
theorem KT.base {F:Gs} {b:Nat} {x:Int} (h:F b=some ([Value.int .u64 x].toArray,248)) (h0:0<x) (h1:x<W):KT F ⟨some ⟨b,0,none⟩,1,1⟩ [x]:=by
 refine⟨fun w hw=>?_,?_,?_⟩
 ·obtain ⟨fr,e⟩:=hw b _ _ h
  refine⟨_,1,rfl,by simp,by decide,fun i hi=>?_⟩
  have hi0:i=0:=by simp at hi;omega
  subst hi0
  exact⟨b,0,rfl,⟨_,_,e⟩,by simp [World.cell?,e];rfl⟩
 ·intro y hy;rw [List.mem_singleton.1 hy];omega
 ·simp [NZ];omega
theorem BL {w:World} {F:Gs} {g:Bg} {a:Int} (hF:Fits F w) (hG:JC F) (h:Jq F g a) (hza:sz a≤100000000):Qc Tryz.prog 243 [g.v] w F (tx (X0 a)):=by
 have hk:=YT.kind (h w hF.r)
 have hn2:a.natAbs<2^sz a:=G4 a
 refine QT.intro (G:=fun F=>JC F∧Jq F g a) Tryz.func243 rfl (by rfl) rfl rfl hF (fun F' hF'=>⟨hG.le hF',h.le hF'⟩)<|J_sr<|Q5 rfl (vs:=[_,_]) rfl (fun b1=>JS_as rfl<|JS_nt<|QG<|J_sr<|QA (QI rfl Gg KX)<|QA (Qo rfl KX .here (.skip (.here .nil)))<|QA (Vx rfl rfl YR)<|QE<|QC ?_)
 refine QP rfl (fun hc=>?_) (fun hc=>?_)
 ·
  refine J_sr<|QA (QI rfl Bi Qs)<|QA (Qo rfl Qs .here (.here .nil))<|QH rfl (fun w F hF ⟨hGl,hB⟩=>Om hF hGl (by rcases hk with hk | hk;omega;rw [hk.1] at hc;cases hc) (by rcases hk with hk | hk;omega;rw [hk.1] at hc;cases hc)) (fun _=>JS_as rfl<|JS_nt<|QS ?_)
  exact QR () rfl (.tmp rfl .nil) (by rcases hk with hk | hk;rw [hk.2.1];rfl;rw [hk.1] at hc;cases hc) (fun _ _=>trivial)
 ·
  refine QO<|QC<|J_sr<|QA (QL (vs:=[_,_]) rfl QY .here (.here (.here .nil)) rfl) ?_
  refine QH rfl (fun w F hF ⟨hGl,hB⟩=>Ew hF (by assumption)) (fun c20=>?_);rcases c20 with ⟨v20,l20⟩;dsimp only
  refine JH _ (fun w F hF ⟨⟨hGl,hB⟩,⟨h20,h20p⟩⟩=>And.intro h20.2 h20p) (fun p20=>?_)
  have ha0:a≠0:=by rcases hk with hk | hk;rw [hk.1] at hc;cases hc;omega
  have hn20:(dv W l20).toNat=a.natAbs:=by rw [p20.2,KC];rfl
  refine JS_mv rfl<|QA (QK rfl rfl)<|QA (QK rfl rfl)<|JS_as rfl<|JS_as rfl<|JS_nt<|J_sr<|QW rfl (Q7 YR) Mg kh rfl rfl (fun b23=>JS_as rfl<|JS_nt<|J_sr<|JS_as rfl<|JS_nt<|QG<|QX ?_)
  refine Xa (ι:=Iw a.natAbs) (fun i=>[(3,.bool (decide (a<0))),(4,.slice i.r.q i.r.n i.r.cap),(5,.slice (some ⟨b23,0,none⟩) 1 1),(6,i.v)]) (fun i=>i.ob) (fun i F=>JC F∧KT F ⟨some ⟨b23,0,none⟩,1,1⟩ [1000000000000000000]∧KT F i.r i.l) (fun i=>(dv W i.l).toNat)
   ⟨l20,v20,[],.slice none 0 0,[],p20.1.1,p20.1.2,by omega,.nil,by simp,by rw [hn20];simp⟩ ⟨rfl,rfl,rfl,rfl,trivial⟩ (List.nil_sublist _) (fun F h9=>⟨h9.1.1.1,KT.base h9.2 (by decide) (by decide),h9.1.2.1⟩) (fun i=>?_)
  refine X3 _ (fun w F hF h=>h.2.2.len hF) (fun hil=>QG<|J_sr<|JS_mv rfl<|QA (Qi rfl YR)<|QA (QU rfl rfl rfl)<|QE<|QC ?_)
  refine QP rfl (fun hc=>?_) (fun hc=>?_)
  ·
   have hne:i.l≠[]:=by intro e;rw [e] at hil;simp at hc;simp at hil;omega
   have h0i:=Qu (by decide:(0:Int)<W) i.dg
   have hposi:0<(dv W i.l).toNat:=by
    have:=mt (Yq (by decide:(1:Int)<W) i.dg i.nz).1 hne;omega
   have hlen:i.l.length≤10000000000:=by
    have hle:=i.le
    have h3:=Xt (z:=dv W i.l) i.dg i.nz (by unfold Je;split<;>omega) (Nat.le_trans (KF (by omega:(dv W i.l).natAbs≤a.natAbs)) (Nat.le_trans hza (by decide)))
    omega
   refine QO<|QC<|QX<|J_sr<|JS_mv rfl<|JS_mv rfl ?_
   refine QH rfl (fun w F hF h9=>T3 (r:=i.r) (r':=⟨some ⟨b23,0,none⟩,1,1⟩) (la:=i.l) (lb:=[1000000000000000000]) hF h9.2.2 h9.2.1 (List.cons_ne_nil _ _) hlen (Nat.le_of_ble_eq_true rfl)) (fun c30=>?_);rcases c30 with ⟨⟨v30,l30⟩,v30_,l30_⟩;dsimp only
   refine JH _ (fun w F hF ⟨⟨hGl,⟨hbase,hL⟩⟩,⟨⟨h30,h30_⟩,h30p⟩⟩=>And.intro h30.2 (And.intro h30_.2 h30p)) (fun p30=>?_)
   have hb1:dv W [1000000000000000000]=1000000000000000000:=by simp
   have hq:=O0 hb1 p30.2.2.1 h0i
   have hr:=jF hb1 p30.2.2.2 h0i
   have h1d:=F7 p30.2.1.1 p30.2.1.2 (by have hW:W=18446744073709551616:=rfl;omega)
   refine JH _ (fun w F hF ⟨_,⟨⟨h30,h30_⟩,_⟩⟩=>And.intro (h30.len hF) (h30_.len hF)) (fun pl=>JS_mv rfl<|QA (QK rfl rfl)<|QA (QK rfl rfl)<|JS_as rfl<|JS_as rfl<|JS_nt<|J_sr<|JS_as rfl<|QE<|QC ?_)
   refine Kj (ι:=Unit) (fun _=>[(3,.bool (decide (a<0))),(5,.slice (some ⟨b23,0,none⟩) 1 1),(6,i.v),(7,.slice v30.q v30.n v30.cap),(9,tx (Lib.decDigits ((dv W i.l).toNat%10^18)))]) (fun _=>i.ob) (fun _ F=>JC F∧KT F ⟨some ⟨b23,0,none⟩,1,1⟩ [1000000000000000000]∧KT F v30 l30) ?_ ?_
   ·
    refine J_sr<|JS_mv rfl<|QA (Qi rfl YR)<|QA (QU rfl rfl rfl)<|QE<|QC ?_
    refine QP rfl (fun hc=>?_) (fun hc=>?_)
    ·
     have hl1:l30_=[dv W l30_]:=by
      rcases h1d with e | e
      ·exfalso;rw [e] at pl;simp at hc;simp at pl;omega
      ·exact e
     have hll:l30_.length=1:=by rw [hl1];rfl
     have hg0:l30_.getD 0 0=(((dv W i.l).toNat%10^18:Nat):Int):=by
      have:l30_.getD 0 0=dv W l30_:=by rw [hl1];simp
      rw [this];omega
     refine X3 _ (fun w F hF ⟨_,⟨_,h⟩,_⟩=>(h.at hF (by intro e;rw [e] at hll;simp at hll)).2) (fun hqb=>QB<|JS_mv rfl ?_)
     obtain ⟨qb,qo,hqb⟩:=hqb
     obtain ⟨vq,vn,vcap⟩:=v30_
     dsimp only at hqb pl
     subst hqb
     refine QA (Qw (i:=0) rfl rfl YR Mg (by dsimp only;omega))<|QA (Ay (l:=l30_) rfl Mg (fun F h9=>h9.2.1.2) (by omega)) ?_
     rw [hg0]
     refine QH rfl (fun w F hF h9=>R7 hF h9.1.1 (by omega)) (fun _=>JS_as rfl<|QE ?_)
     exact XE () ⟨rfl,rfl,rfl,rfl,rfl,trivial⟩ subl_r (fun F h9=>⟨h9.1.1.1,h9.1.1.2.1,h9.1.2.1.1⟩)
    ·
     refine QO ?_
     have e0:(dv W i.l).toNat%10^18=0:=by
      rcases h1d with e | e
      ·rw [e] at hr;simp at hr;omega
      ·have:=congrArg List.length e;simp at this;simp at hc;omega
     exact XE () ⟨rfl,rfl,rfl,rfl,(by show some (tx _)=some (tx _);rw [e0,Ze]),trivial⟩ subl_r (fun F h9=>⟨h9.1.1,h9.1.2.1,h9.2.1.1⟩)
   ·intro xg9
    refine Kj (ι:=Unit) (fun _=>[(3,.bool (decide (a<0))),(5,.slice (some ⟨b23,0,none⟩) 1 1),(6,i.v),(7,.slice v30.q v30.n v30.cap),(9,tx ((if(dv W l30).toNat=0 then Lib.decDigits ((dv W i.l).toNat%10^18) else VW 18 (Lib.decDigits ((dv W i.l).toNat%10^18)))))]) (fun _=>i.ob) (fun _ F=>JC F∧KT F ⟨some ⟨b23,0,none⟩,1,1⟩ [1000000000000000000]∧KT F v30 l30) ?_ ?_
    ·
     refine J_sr<|JS_mv rfl<|QA (Qi rfl YR)<|QA (QU rfl rfl rfl)<|QE<|QC ?_
     refine QP rfl (fun hc=>?_) (fun hc=>?_)
     ·
      have hq0:(dv W l30).toNat≠0:=by
       have h1:=Qu (by decide:(0:Int)<W) p30.1.1
       have h2:l30≠[]:=by intro e;rw [e] at pl;simp at hc;simp at pl;omega
       have:=mt (Yq (by decide:(1:Int)<W) p30.1.1 p30.1.2).1 h2
       omega
      have hd18:(Lib.decDigits ((dv W i.l).toNat%10^18)).length≤18:=by rw [Lib.decDigits_length];exact Za (Nat.mod_lt _ (by decide)) (by decide)
      refine QB<|JS_mv rfl<|QA (XA rfl Xn)<|QA (J7 rfl rfl (by omega)) ?_
      rw [show(18:Int) - ((Lib.decDigits ((dv W i.l).toNat%10^18)).length:Int)=((18 - (Lib.decDigits ((dv W i.l).toNat%10^18)).length:Nat):Int) by omega]
      refine QH rfl (fun w F hF _=>Lx hF (by simp;omega) (by omega)) (fun _=>JS_mv rfl<|QA (Zf rfl rfl (by rw [Lib.repeatL_length];simp only [List.length_singleton];omega))<|JS_as rfl<|QE ?_)
      exact XE () ⟨rfl,rfl,rfl,rfl,(by show some (tx _)=some (tx _);rw [if_neg hq0];rfl),trivial⟩ subl_r (fun F h=>h.1)
     ·
      refine QO ?_
      have hq0:(dv W l30).toNat=0:=by
       have h2:l30=[]:=List.eq_nil_of_length_eq_zero (by simp at hc;omega)
       rw [h2];rfl
      exact XE () ⟨rfl,rfl,rfl,rfl,(by show some (tx _)=some (tx _);rw [if_pos hq0]),trivial⟩ subl_r (fun F h=>h)
    ·intro xg11
     refine J_sr<|JS_mv rfl<|JS_mv rfl<|HM rfl (Q7 RT) Cu cJ rfl rfl (fun b51=>?_)
     have hfew:=i.cV hn2
     refine VT (bs1:=[_]) (ob:=i.ob) (k:=1) (sz:=1) (news:=[tx (if(dv W l30).toNat=0 then Lib.decDigits ((dv W i.l).toNat%10^18) else VW 18 (Lib.decDigits ((dv W i.l).toNat%10^18)))]) rfl rfl RT Cu cJ rfl ud i.hr (Src.Lt (b:=b51) (T:=9) (fr:=(0,0)) (c:=1) List.mem_cons_self rfl) (by omega) (by omega) (fun u hu=>by rw [List.mem_singleton.1 hu];rfl) (fun v' ob' hr'=>JS_as rfl<|JS_nt<|QB<|JS_mv rfl<|JS_as rfl<|QE<|Qk ?_)
     exact Ql (i.next hne l30 v30 v' ob' (if(dv W l30).toNat=0 then Lib.decDigits ((dv W i.l).toNat%10^18) else VW 18 (Lib.decDigits ((dv W i.l).toNat%10^18))) p30.1.1 p30.1.2 hq rfl hr') (by show(dv W l30).toNat<(dv W i.l).toNat;rw [hq];exact Nat.div_lt_self hposi (by decide)) ⟨rfl,rfl,rfl,rfl,trivial⟩ (.cons _ subl_r) (fun F h=>h)
  ·
   refine Qy ?_
   repeat (first | refine QZ ?_ | refine QV (by rfl) ?_)
   refine Qa<|QC ?_
   have hi0:i.l=[]:=List.eq_nil_of_length_eq_zero (by simp at hc;omega)
   have hfl:i.ps.reverse.flatten=hd a.natAbs:=by have:=i.inv;rw [hi0] at this;simpa [hd] using this
   have hfew:=i.cV hn2
   have hflen:i.ps.reverse.flatten.length≤100000000:=by rw [hfl];exact Nat.le_trans (On hn2) hza
   refine J_sr<|Qf ji (fun b10=>QE<|QC ?_)
   refine Kj (ι:=CG b10 (if a<0 then [45] else []:List UInt8) i.ps) (fun j=>[(6,i.v),(10,.pointer (some ⟨b10,0,none⟩))]) (fun j=>j.jk++i.ob) (fun j F=>j.k=i.ps.length∧JC F) ?_ ?_
   ·
    refine J_sr<|JS_mv rfl<|QE<|QC ?_
    refine QP rfl (fun hc=>?_) (fun hc=>?_)
    ·
     refine QB ?_
     have hneg:a<0:=dec_t hc
     refine XL (bs1:=[_]++i.ob) rfl (List.Perm.refl _) (Vk (s:=[45]) (UT.fresh (b:=b10)) (by simp)) (fun jk=>JH _ (fun w F hF h=>h.2) (fun hbl=>QE ?_))
     exact XE (⟨i.ps.length,jk,Nat.le_refl _,by rw [if_pos hneg];simpa using hbl⟩:CG b10 (if a<0 then [45] else []:List UInt8) i.ps) ⟨rfl,rfl,trivial⟩ subl_r (fun F h=>⟨rfl,h.1.1⟩)
    ·
     refine QO ?_
     exact XE (⟨i.ps.length,[_],Nat.le_refl _,by rw [if_neg (dec_f hc)];simpa using (UT.fresh (b:=b10))⟩:CG b10 (if a<0 then [45] else []:List UInt8) i.ps) ⟨rfl,rfl,trivial⟩ subl_r (fun F h=>⟨rfl,h.1⟩)
   ·intro xg16
    refine X3 _ (fun w F hF h=>h.1) (fun hk16=>?_)
    have hv6:∃ q c6,i.v = .slice q i.ps.length c6:=by have:=i.hr;generalize i.v=v at this;generalize i.ps.map tx=q at this;generalize i.ps.length=n at this;generalize i.ob=o at this;cases this<;>exact⟨_,_,rfl⟩
    obtain ⟨q6,c6,hv6⟩:=hv6
    rw [hv6]
    refine QG<|J_sr<|JS_mv rfl<|QA (Qi rfl RT)<|QA (J7 rfl rfl (by omega))<|JS_as rfl<|JS_nt<|QX<|Xa (ι:=CG b10 (if a<0 then [45] else []:List UInt8) i.ps) (fun j=>[(6,.slice q6 i.ps.length c6),(10,.pointer (some ⟨b10,0,none⟩)),(11,.int .i64 ((j.k:Int) - 1))]) (fun j=>j.jk++i.ob) (fun _ F=>JC F) (fun j=>j.k) xg16 ⟨rfl,rfl,(by rw [hk16];rfl),trivial⟩ subl_r (fun F h=>h.2) (fun j=>?_)
    have hjl:=j.le
    refine QG<|J_sr<|JS_mv rfl<|QA (QU rfl rfl rfl)<|QE<|QC ?_
    refine QP rfl (fun hc=>?_) (fun hc=>?_)
    ·
     have hj0:0<j.k:=by simp at hc;omega
     obtain ⟨b6,hb6⟩:∃ b6,q6=some ⟨b6,0,none⟩:=by
      have:=i.hr
      rw [hv6] at this
      generalize i.ps.map tx=q at this;generalize i.ob=o at this;generalize hnn:i.ps.length=n at this
      cases this with
      |nil=>omega
      |some=>exact⟨_,rfl⟩
     subst hb6
     have hlt:j.k - 1<i.ps.length:=by omega
     have hjj:(j.k:Int) - 1=((j.k - 1:Nat):Int):=by omega
     refine QO<|QC<|QG<|QX<|QB<|JS_mv rfl<|JS_mv rfl<|QA (Qw (i:=j.k - 1) rfl (congrArg (fun z:Int=>some (Value.int .i64 z)) hjj) RT Cu hlt)<|QA (Fu (i:=j.k - 1) (u:=tx (i.ps[j.k - 1])) (by have:=i.hr;rw [hv6] at this;exact this) (fun k hk=>List.mem_append_right _ hk) rfl rfl Cu (by simp [hlt])) ?_
     have hdrop:(i.ps.drop (j.k - 1)).reverse.flatten=(i.ps.drop j.k).reverse.flatten++i.ps[j.k - 1]:=by
      rw [List.drop_eq_getElem_cons hlt,show j.k - 1+1=j.k by omega];simp [List.flatten_append]
     have hbound:((i.ps.drop (j.k - 1)).reverse.flatten).length≤100000000:=by
      have e:i.ps.reverse.flatten=(i.ps.drop (j.k - 1)).reverse.flatten++(i.ps.take (j.k - 1)).reverse.flatten:=by
       rw [← List.flatten_append,← List.reverse_append,List.take_append_drop]
      rw [e,List.length_append] at hflen;omega
     rw [hdrop,List.length_append] at hbound
     refine XL rfl (List.Perm.refl _) (Vk j.bl (by rw [List.length_append];have hp:(if a<0 then [45] else []:List UInt8).length≤1:=(by split<;>simp);omega)) (fun jk=>JH _ (fun w F hF h=>h.2) (fun hbl=>QE<|Qk<|QC<|QB<|JS_mv rfl<|QA (J7 rfl rfl (by omega))<|JS_as rfl<|QE ?_))
     exact Ql (⟨j.k - 1,jk,by omega,by rw [hdrop,← List.append_assoc];exact hbl⟩:CG b10 (if a<0 then [45] else []:List UInt8) i.ps) (by show j.k - 1<j.k;omega) ⟨rfl,rfl,(by show some (Value.int .i64 ((j.k:Int) - 1 - 1))=some (Value.int .i64 (((j.k - 1:Nat):Int) - 1));rw [hjj]),trivial⟩ subl_r (fun F h=>h.1)
    ·
     refine Qy ?_
     repeat (first | refine QZ ?_ | refine QV (by rfl) ?_)
     refine Qa<|QC<|QG<|QB ?_
     have hj0:j.k=0:=by simp at hc;omega
     have hbl:=j.bl
     rw [hj0,List.drop_zero,hfl,qS ha0] at hbl
     refine EU (v:=tx (X0 a)) hF rfl (enters_of Tryz.func281 (by rfl) rfl) (fun w' hw'=>Tryz.Builder_String_any w.heap.size b10 (X0 a) w' (hbl.is hw') (by obtain ⟨F',h'⟩:=hw';exact h'.ext.size))<|JS_as rfl<|JS_nt<|QS ?_
     exact QR () rfl (.tmp rfl .nil) rfl (fun _ _=>trivial)
end
section
open Go
def ZS (c:UInt8) (s:List UInt8):List UInt8×List UInt8×Bool:=if s.contains c then(s.takeWhile (· != c),(s.dropWhile (· != c)).drop 1,true) else(s,[],false)
theorem R5 (c:UInt8) (s:List UInt8):Lib.indexByte s c=if s.contains c then((s.takeWhile (· != c)).length:Int) else -1:=by
 induction s with
 |nil=>rfl
 |cons b s ih =>
  unfold Lib.indexByte
  by_cases h:b=c
  ·subst h;simp
  ·have h1:(b==c)=false:=beq_eq_false_iff_ne.2 h
   have h2:(b != c)=true:=by simp [bne,h1]
   have h3:(c==b)=false:=beq_eq_false_iff_ne.2 (fun e=>h e.symm)
   rw [ih]
   simp only [h1,Bool.false_eq_true,if_false,List.contains_cons,h3,Bool.false_or,List.takeWhile_cons,h2,if_true]
   by_cases h4:s.contains c=true
   ·simp only [h4,if_true]
    have:(((s.takeWhile (· != c)).length:Int)==-1)=false:=by
     apply beq_eq_false_iff_ne.2;omega
    simp only [this,Bool.false_eq_true,if_false,List.length_cons];omega
   ·have h5:¬ c∈s:=by simpa using h4
    simp [h5]
theorem K7 (p:UInt8→Bool) (s:List UInt8):s.take (s.takeWhile p).length=s.takeWhile p∧s.drop (s.takeWhile p).length=s.dropWhile p:=by
 induction s with
 |nil=>simp
 |cons b s ih =>
  simp only [List.takeWhile_cons,List.dropWhile_cons]
  split<;>simp [ih]
theorem SF (c:UInt8) (s:List UInt8):Lib.cut s [c]=ZS c s:=by
 have h:Lib.index s [c]=if s.contains c then((s.takeWhile (· != c)).length:Int) else -1:=by
  rw [← R5];exact Lib.index_one s c
 unfold Lib.cut ZS
 rw [h]
 by_cases h4:s.contains c=true
 ·simp only [h4,if_true]
  rw [if_pos (by omega),Int.toNat_natCast,(K7 _ s).1]
  have:=(K7 (· != c) s).2
  rw [← List.drop_drop,this];rfl
 ·simp only [h4,Bool.false_eq_true,if_false]
  rw [if_neg (by omega)]
theorem Bs {c:UInt8} {a b:List UInt8} (h:a.contains c=false):ZS c (a++c::b)=(a,b,true):=by
 have h1:∀ x∈a,(x != c)=true:=fun x hx=>by
  simp only [bne_iff_ne,ne_eq];rintro rfl
  have:a.contains x=true:=by simpa using hx
  rw [this] at h;cases h
 unfold ZS
 rw [if_pos (by simp)]
 have h2:(a++c::b).takeWhile (· != c)=a:=by
  rw [List.takeWhile_append_of_pos h1];simp
 have h3:(a++c::b).dropWhile (· != c)=c::b:=by
  rw [List.dropWhile_append_of_pos h1];simp
 rw [h2,h3];rfl
theorem RB {c:UInt8} {a:List UInt8} (h:a.contains c=false):ZS c a=(a,[],false):=by
 unfold ZS;rw [h];simp
theorem FQ {c:UInt8} {l:List UInt8} (h:XH l=true) (hc:UQ c=false):l.contains c=false:=by
 cases hx:l.contains c with
 |false=>rfl
 |true =>
  have:c∈l:=by simpa using hx
  rw [XH,List.all_eq_true] at h
  rw [h c this] at hc;cases hc
theorem BU {c:UInt8} (z:Int) (hc:UQ c=false) (h:c≠45):(X0 z).contains c=false:=by
 by_cases hz:z<0
 ·rw [YI hz,List.contains_cons,FQ (Jb _) hc]
  simp [h]
 ·rw [J3 (by omega)];exact FQ (Jb _) hc
theorem O4 (r:Rat):Lib.cut (Jg r) [47]=if r.den=1 then(X0 r.num,[],false) else(X0 r.num,Lib.decDigits r.den,true):=by
 rw [SF]
 unfold Jg
 split
 ·exact RB (BU _ (by decide) (by decide))
 ·exact Bs (BU _ (by decide) (by decide))
theorem Vt (z:Int):Lib.trimPrefix (X0 z) [45]=Lib.decDigits z.natAbs:=by
 unfold Lib.trimPrefix
 by_cases h:z<0
 ·rw [YI h];simp [Lib.hasPrefix,List.isPrefixOf]
 ·rw [J3 (by omega),Ka (Jb _)];simp
theorem ZX {l:List UInt8} (h:XH l=true):Lib.trimPrefix l [45]=l:=by
 unfold Lib.trimPrefix;rw [Ka h];simp
theorem XK {l:List UInt8} (h:XH l=true):Zz l=JB l:=by
 unfold Zz;rw [Ka h];simp
def lim:Nat:=10^600
theorem Rx (u:Nat):(600<(Lib.decDigits u).length)↔lim≤u:=by unfold lim;rw [Lib.decDigits_length];exact Rt (by decide)
theorem A9:2^1800<lim:=by
 decide +kernel
def BY (z:Int):Bool:=decide (lim≤z.natAbs)
def XP (r:Rat):Bool:=BY r.num||BY r.den
end
section
open Go.RowKit Ig
theorem Oh {w:World} {F:Gs} {g:Bg} {a:Int} (hF:Fits F w) (hG:JC F) (h:Jq F g a) (hza:sz a≤100000000):Qc Tryz.prog 242 [g.v] w F (.bool (BY a)):=by
 refine QT.intro (G:=fun F=>JC F∧Jq F g a) Tryz.func242 rfl (by rfl) rfl rfl hF (fun F' hF'=>⟨hG.le hF',h.le hF'⟩)<|J_sr<|Q5 rfl (vs:=[_,_]) rfl (fun b1=>JS_as rfl<|JS_nt<|J_sr<|QA (QL (vs:=[_,_]) rfl QY .here (.here (.here .nil)) rfl)<|QH rfl (fun w F hF h9=>yL hF h9.2 (Nat.le_trans hza (by decide))) (fun _=>QA (QU rfl rfl rfl)<|JS_mv rfl ?_))
 refine Qn (t:=6) rfl (fun hb6=>?_) (fun hb6=>?_)
 ·
  refine QJ rfl rfl<|QA (QL (vs:=[_,_]) rfl QY .here (.here (.here .nil)) rfl)<|QJ rfl rfl<|QH rfl (fun w F hF h9=>BL hF h9.1.1 h9.1.2 hza) (fun _=>QJ rfl rfl<|QH rfl (fun w F hF h9=>BD hF ) (fun _=>QJ rfl rfl<|QA (XA rfl Xn)<|QJ rfl rfl<|QA (QU rfl rfl rfl)<|QA (Qj rfl rfl rfl)<|JS_as rfl<|JS_nt<|QS ?_))
  exact QR () rfl (.tmp rfl .nil) (congrArg Value.bool (by rw [Vt];exact decide_eq_decide.2 (Iff.trans (b:=600<(Lib.decDigits a.natAbs).length) (Rx a.natAbs).symm (by constructor<;>intro h<;>omega)))) (fun _ _=>trivial)
 ·
  refine QN rfl rfl rfl<|QN rfl rfl rfl<|QN rfl rfl rfl<|QN rfl rfl rfl<|QN rfl rfl rfl<|QA (Qh rfl rfl rfl)<|JS_as rfl<|JS_nt<|QS ?_
  exact QR () rfl (.tmp rfl .nil) (congrArg Value.bool (by have h1:=dec_f hb6;have h2:sz a≤1800:=(by omega);have h3:=(Xv a 1800).1 h2;exact decide_eq_false (Nat.not_le.2 (Nat.lt_trans h3 A9)))) (fun _ _=>trivial)
theorem Bh {w:World} {F:Gs} {x:Fr} {r:Rat} (hF:Fits F w) (hG:JC F) (h:JV F x r) (hz:JO r≤100000000):Qc Tryz.prog 196 [x.v] w F (.bool (XP r)):=by
 refine QT.intro (G:=fun F=>JC F∧JV F x r) Tryz.func196 rfl (by rfl) rfl rfl hF (fun F' hF'=>⟨hG.le hF',h.le hF'⟩)<|J_sr<|Q5 rfl (vs:=[_,_,_,_]) rfl (fun b1=>JS_as rfl<|JS_nt<|J_sr<|QA (QI rfl ZJ QY)<|QA (QL (vs:=[_,_]) rfl QY .here (.here (.here .nil)) rfl)<|QH rfl (fun w F hF h9=>Oh (g:=x.n) hF h9.1 h9.2.1 (Nat.le_trans (Ji r) hz)) (fun _=>JS_mv rfl ?_))
 refine Qn (t:=6) rfl (fun hb6=>?_) (fun hb6=>?_)
 ·
  refine QN rfl rfl rfl<|QN rfl rfl rfl<|QN rfl rfl rfl<|QA (Qj rfl rfl rfl)<|JS_as rfl<|JS_nt<|QS ?_
  exact QR () rfl (.tmp rfl .nil) (congrArg Value.bool (by unfold XP;rw [hb6,Bool.true_or])) (fun _ _=>trivial)
 ·
  refine QJ rfl rfl<|QA (QI rfl ZI QY)<|QJ rfl rfl<|QA (QL (vs:=[_,_]) rfl QY .here (.skip (.skip (.here (.here .nil)))) rfl)<|QJ rfl rfl<|QH rfl (fun w F hF h9=>Oh (g:=x.d) hF h9.1.1 h9.1.2.2 (Nat.le_trans (Jd r) hz)) (fun _=>QA (Qh rfl rfl rfl)<|JS_as rfl<|JS_nt<|QS ?_)
  exact QR () rfl (.tmp rfl .nil) (congrArg Value.bool (by unfold XP;rw [hb6,Bool.false_or])) (fun _ _=>trivial)
theorem TM {z:Int} {k:Nat} (h:sz z≤k):(X0 z).length≤k+2:=by
 have h2:=G4 z
 have h1:(Lib.decDigits z.natAbs).length≤k+1:=by
  rw [Lib.decDigits_length]
  exact Za (Nat.lt_of_lt_of_le h2 (Nat.le_trans (Nat.pow_le_pow_right (by decide) (show sz z≤k+1 by omega)) (Nat.pow_le_pow_left (by decide) _))) (by omega)
 by_cases hz:z<0
 ·rw [YI hz,List.length_cons];omega
 ·rw [J3 (by omega)];omega
theorem A5 (n:Nat):X0 (n:Int)=Lib.decDigits n:=by rw [J3 (by omega)];rfl
theorem E2 {w:World} {F:Gs} {x:Fr} {r:Rat} (hF:Fits F w) (hG:JC F) (h:JV F x r) (hz:JO r≤100000000):Qc Tryz.prog 197 [x.v] w F (tx (Jg r)):=by
 have hl1:=TM (Nat.le_trans (Ji r) hz)
 have hl2:=TM (Nat.le_trans (Jd r) hz)
 refine QT.intro (G:=fun F=>JC F∧JV F x r) Tryz.func197 rfl (by rfl) rfl rfl hF (fun F' hF'=>⟨hG.le hF',h.le hF'⟩)<|J_sr<|Q5 rfl (vs:=[_,_,_,_]) rfl (fun b1=>JS_as rfl<|JS_nt<|QG<|J_sr<|QA (QL (vs:=[_,_,_,_]) rfl Qe .here (.here (.here (.here (.here .nil)))) rfl)<|QH rfl (fun w F hF h9=>DU (x:=x) (r:=r) hF ⟨h9.2.1,h9.2.2⟩) (fun _=>QE<|QC ?_))
 refine QP rfl (fun hc=>?_) (fun hc=>?_)
 ·
  refine J_sr<|QA (QI rfl ZJ QY)<|QA (QL (vs:=[_,_]) rfl QY .here (.here (.here .nil)) rfl)<|QH rfl (fun w F hF h9=>BL (g:=x.n) hF h9.1.1 h9.1.2.1 (Nat.le_trans (Ji r) hz)) (fun _=>JS_as rfl<|JS_nt<|QS ?_)
  exact QR () rfl (.tmp rfl .nil) (congrArg tx (by unfold Jg;rw [if_pos (by simp at hc;omega)])) (fun _ _=>trivial)
 ·
  refine QO<|QC<|QG<|JR subl_r mixed (by kernel_rfl)<|QM (QI rfl ZJ QY)<|QM (QL (vs:=[_,_]) rfl QY .here (.here (.here .nil)) rfl)<|Qg rfl (fun w F hF h9=>BL (g:=x.n) hF h9.1.1 h9.1.2.1 (Nat.le_trans (Ji r) hz)) (fun _=>QM (Zf rfl rfl (by simp;omega))<|QM (QI rfl ZI QY)<|QM (QL (vs:=[_,_]) rfl QY .here (.skip (.skip (.here (.here .nil)))) rfl)<|Qg rfl (fun w F hF h9=>BL (g:=x.d) hF h9.1.1.1 h9.1.1.2.2 (Nat.le_trans (Jd r) hz)) (fun _=>QM (Zf rfl rfl (by simp;omega))<|QM (QF rfl)<|Q9<|QC<|QS ?_))
  exact QR () rfl (.tmp rfl .nil) (congrArg tx (by unfold Jg;rw [if_neg (by simp at hc;omega),A5];simp)) (fun _ _=>trivial)
theorem Gv {w:World} {F:Gs} {s:List UInt8} {r:Rat} (hF:Fits F w) (hG:JC F) (hs:s=Jg r) (hl:s.length≤10000000):ZE Tryz.prog 108 [tx s] w F r:=by
 have hcut:=O4 r
 rw [← hs] at hcut
 refine QT.intro (G:=fun F=>JC F) Tryz.func108 rfl (by rfl) rfl rfl hF (fun F' hF'=>hG.le hF')<|J_sr<|Qf Xp (fun b2=>JS_nt<|J_sr<|JS_mv rfl<|QH rfl (fun w F hF hGl=>FK hF hGl (by omega)) (fun _=>?_))
 rw [hcut]
 refine JS_mv rfl<|QA (QK rfl rfl)<|QA (QK rfl rfl)<|QA (QK rfl rfl)<|JS_as rfl<|JS_as rfl<|JS_as rfl<|JS_nt<|QG<|J_sr<|JS_mv rfl<|QA (Z0 rfl)<|QE<|QC ?_
 refine QP rfl (fun hc=>?_) (fun hc=>?_)
 ·
  refine J_sr<|JS_mv rfl<|QH rfl (fun w F hF h9=>W5 hF (by have h1:r.den=1:=(by by_cases h:r.den=1;exact h;rw [if_neg h] at hc;cases hc);rw [if_pos h1,Vt];exact Jb _) (by have h1:r.den=1:=(by by_cases h:r.den=1;exact h;rw [if_neg h] at hc;cases hc);rw [if_pos h1];have e:s=X0 r.num:=(by rw [hs];unfold Jg;rw [if_pos h1]);rw [← e];exact hl)) (fun g15=>QH rfl (fun w F hF h9=>BB hF h9.2) (fun x16=>QQ (vs:=[_,_,_,_]) rfl rfl rfl Qe rfl .here (.here (.here (.here (.here .nil)))) ⟨rfl,rfl,rfl,rfl,trivial⟩<|JS_nt<|QS ?_))
  exact QR (_) rfl (.Jc (c:=[_,_,_,_]) rfl Qe .here .nil) rfl (fun F ⟨⟨⟨hGl,_⟩,h15⟩,⟨h16,h16_⟩⟩=>(by have h1:r.den=1:=(by by_cases h:r.den=1;exact h;rw [if_neg h] at hc;cases hc);have e:((r.num:Int):Rat)=r:=(by apply Rat.ext;rfl;simp [h1]);rw [if_pos h1] at h16 h16_;rw [YG] at h16 h16_;rw [e] at h16 h16_;exact⟨h16,h16_⟩))
 ·
  refine QO<|QC<|J_sr<|JS_mv rfl<|QH rfl (fun w F hF ⟨hGl,_⟩=>W5 hF (by have h1:¬ r.den=1:=(by intro h;rw [if_pos h] at hc;cases hc);rw [if_neg h1,Vt];exact Jb _) (by have h1:¬ r.den=1:=(by intro h;rw [if_pos h] at hc;cases hc);rw [if_neg h1];have e:s=X0 r.num++47::Lib.decDigits r.den:=(by rw [hs];unfold Jg;rw [if_neg h1]);rw [e,List.length_append] at hl;show(X0 r.num).length≤_;omega)) (fun g18=>JS_mv rfl<|QH rfl (fun w F hF ⟨⟨hGl,_⟩,h18⟩=>W5 hF (by have h1:¬ r.den=1:=(by intro h;rw [if_pos h] at hc;cases hc);rw [if_neg h1];show XH (Lib.trimPrefix (Lib.decDigits r.den) [45])=true;rw [ZX (Jb _)];exact Jb _) (by have h1:¬ r.den=1:=(by intro h;rw [if_pos h] at hc;cases hc);rw [if_neg h1];have e:s=X0 r.num++47::Lib.decDigits r.den:=(by rw [hs];unfold Jg;rw [if_neg h1]);rw [e,List.length_append,List.length_cons] at hl;show(Lib.decDigits r.den).length≤_;omega)) (fun g20=>QA (Q6 rfl Hl Xp (.cons (vs:=[_,_]) rfl rfl rfl (.here (.here .nil)) (.cons (vs:=[_,_]) rfl rfl rfl (.skip (.skip (.here (.here .nil)))) .nil)))<|QQ (vs:=[_,_,_,_]) rfl rfl rfl Qe rfl .here (.here (.here (.here (.here .nil)))) ⟨rfl,rfl,rfl,rfl,trivial⟩<|JS_nt<|QS ?_))
  exact QR (⟨g18,g20⟩:Fr) rfl (.Jc (c:=[_,_,_,_]) rfl Qe .here .nil) rfl (fun F ⟨⟨⟨hGl,_⟩,h18⟩,h20⟩=>(by have h1:¬ r.den=1:=(by intro h;rw [if_pos h] at hc;cases hc);rw [if_neg h1] at h18 h20;rw [YG] at h18;have e:Zz (Lib.decDigits r.den)=(r.den:Int):=(by rw [XK (Jb _),XM]);exact⟨h18,e ▸ h20⟩))
end
section
open Go.RowKit Ig
def Q4 (F:Gs) (q:Option Addr) (n sz:Nat) (cs:List Value):Prop :=
 cs.length=n*sz∧(0<n→∃ b off arr T,q=some ⟨b,off,none⟩∧F b=some (arr,T)∧∀ j u,cs[j]?=some u→arr[off+j]?=some u)
theorem Q4.le {F F':Gs} {q:Option Addr} {n sz:Nat} {cs:List Value} (h:Q4 F q n sz cs) (k:Gs.le F F'):Q4 F' q n sz cs :=
 ⟨h.1,fun hn=>by obtain ⟨b,off,arr,T,e1,e2,e3⟩:=h.2 hn;exact⟨b,off,arr,T,e1,k _ _ e2,e3⟩⟩
theorem Q4.of {F:Gs} {b n sz:Nat} {cs:List Value} {T:TypeId} (h:F b=some (cs.toArray,T)) (hl:cs.length=n*sz):Q4 F (some ⟨b,0,none⟩) n sz cs :=
 ⟨hl,fun _=>⟨b,0,_,T,rfl,h,fun j u hu=>by rw [Nat.zero_add];simpa using hu⟩⟩
theorem Q4.nil (F:Gs) (q:Option Addr) (sz:Nat):Q4 F q 0 sz []:=⟨by simp,fun h=>absurd h (Nat.lt_irrefl 0)⟩
theorem Q4.ptr {F:Gs} {q:Option Addr} {n sz:Nat} {cs:List Value} (h:Q4 F q n sz cs) (hn:0<n):∃ b off,q=some ⟨b,off,none⟩:=by
 obtain ⟨b,off,_,_,e,_⟩:=h.2 hn;exact⟨b,off,e⟩
section
variable [Dr] [df:Df] {P:Program} {Q:Exit→Act→World→Prop} {N:Nat} {m:Sl} {E E0:Env} {ops:Array Oper} {l:List Oper} {w0:World} {F0:Gs} {bs:List (Nat×Obj)} {G:Gs→Prop}
theorem Ky {w:World} (hw:St ⟨w0,F0,bs,G⟩ w) {b off n sz j:Nat} {cs:List Value} {u:Value} (hr:∀ F,G F→Q4 F (some ⟨b,off,none⟩) n sz cs) (hn:0<n) (hu:cs[j]?=some u):w.cell? ⟨b,off+j,none⟩=some u:=by
 obtain ⟨F,hw⟩:=hw
 obtain ⟨b',off',arr,T,e,hF,ha⟩:=(hr F hw.hG).2 hn
 simp only [Option.some.injEq,Addr.mk.injEq] at e
 obtain ⟨rfl,rfl,_⟩:=e
 obtain ⟨fr,e⟩:=hw.fits.row _ _ _ hF
 simp [World.cell?,e,ha j u hu]
theorem XX {T ty:TypeId} {x:Operand} {b off n sz k j:Nat} {cs:List Value} {u:Value} (hx:ev m x=some (.pointer (some ⟨b,off+j,none⟩))) (ht:YA P T=some (false,k)) (hr:∀ F,G F→Q4 F (some ⟨b,off,none⟩) n sz cs) (hn:0<n) (hu:cs[j]?=some u) :
  Qt P N m (St ⟨w0,F0,bs,G⟩) (.load T x) ty u:=fun a w _ _ _ _ ha hw=>by
 have hrun:=ZZ (P:=P) ht (Ky hw hr hn hu)
 simp only [execOp,ha.ev hx,Instr.loadAt,Instr.sureAddr,Sem.run_bind,Sem.run_pure,Result.andThen_ok,hrun]
theorem DL {T ty:TypeId} {x:Operand} {b off n sz k j:Nat} {cs vs:List Value} (hx:ev m x=some (.pointer (some ⟨b,off+j,none⟩))) (ht:YA P T=some (true,k)) (hr:∀ F,G F→Q4 F (some ⟨b,off,none⟩) n sz cs) (hn:0<n) (hl:vs.length=k) (hu:∀ i v,vs[i]?=some v→cs[j+i]?=some v) :
  Qt P N m (St ⟨w0,F0,bs,G⟩) (.load T x) ty (.agg vs.toArray):=fun a w _ _ _ _ ha hw=>by
 have hrun:=Kq (P:=P) ht hl (w:=w) (b:=b) (off:=off+j) (fun i v hv=>by rw [Nat.add_assoc];exact Ky hw hr hn (hu i v hv))
 simp only [execOp,ha.ev hx,Instr.loadAt,Instr.sureAddr,Sem.run_bind,Sem.run_pure,Result.andThen_ok,hrun]
theorem Jt {d:Nat} {ty:TypeId} {pos:String} {aft:Array Edge} {bs0:List (Nat×Obj)} {G0:Gs→Prop} {t e:TypeId} {n sz:Nat} {z:List Value} {g:Bool} {parts:Array (Nat×Operand)} {ps:List (Nat×Value)} {cs:List Value} (hp:Vp m parts.toList=some ps) (ht:P.underlying t=some (.slice e)) (hs:YA P e=some (g,sz)) (hz:XI P e=some z)
  (hc:Yo sz 0 ps=some cs) (hl:cs.length=n*sz) (k:∀ b,JD P ops Q ⟨w0,F0,bs0,G0⟩ l N ((d,.slice (some ⟨b,0,none⟩) n n)::m) ⟨w0,F0,bs,fun F=>G F∧F b=some (cs.toArray,e)⟩) (hE:∀ w,St ⟨w0,F0,bs,G⟩ w→St ⟨w0,F0,bs0,G0⟩ w) (h24:Nat.ble (n*sz) 16777216=true:=by rfl) (hn:Nat.beq (n*sz) 0=false:=by rfl)
  (hd:J4 N (some d)=true:=by rfl):JD P ops Q ⟨w0,F0,bs0,G0⟩ (⟨some d,.buildSlice t n parts,ty,pos,aft,none⟩::l) N m ⟨w0,F0,bs,G⟩:=fun _ a w ha hw=>by
 have hS:=hw.CA cs.toArray e
 have sub:∀ w' b,St ⟨w0,F0,bs,fun F=>G F∧F b=some (cs.toArray,e)⟩ w'→St ⟨w0,F0,bs0,G0⟩ w':=fun w' b h=>hE w' (h.Bb fun _ h=>h.1)
 refine .inr ⟨rfl,?_⟩
 rw [if_pos (by simp [Region.wanted])]
 exact upon_value (Y5 ha hp ht hs hz hc hl h24 hn) ⟨sub _ _ hS,k _ (fun w' h=>sub w' _ h) _ _ (ha.put hd _) hS⟩
end
section
variable [Dr] [df:Df] {P:Program} {Q:Exit→Act→World→Prop} {N:Nat} {m:Sl} {E E0:Env} {ops:Array Oper} {l:List Oper} {ty:TypeId} {pos:String} {aft:Array Edge} {o:Op} {g t:Nat} {want:Bool}
theorem N0 {a:Act} (ha:Jr N m a) {g t:Nat} (hg:(ops[g]?).bind (·.dst)=some t) (hb:look m t=some undef):yielded ops a.tmps g=none:=by
 unfold yielded
 rw [hg]
 have:=ha.get t _ hb
 simp [this,undef]
theorem JU {d:Nat} (hg:(ops[g]?).bind (·.dst)=some t) (hb:look m t=some undef) (hf:JS P ops Q l N ((d,undef)::m) E) (hd:J4 N (some d)=true:=by rfl):JS P ops Q (⟨some d,o,ty,pos,aft,some (g,want)⟩::l) N m E:=by
 intro a w ha hw
 unfold wpList
 have hy:=N0 ha hg hb
 rw [if_neg (by simp [Region.wanted,hy])]
 exact hf _ w (ha.put hd undef) hw
end
def Qm:List Int→Int
 |[]=>0
 |x::l=>if x=0 then Qm l else x
theorem KL {l:List Int} {i:Nat} (hi:i<l.length) (h:l[i]=0):Qm (l.drop i)=Qm (l.drop (i+1)):=by
 rw [List.drop_eq_getElem_cons hi,Qm,if_pos h]
theorem WO {l:List Int} {i:Nat} (hi:i<l.length) (h:l[i]≠0):Qm (l.drop i)=l[i]:=by
 rw [List.drop_eq_getElem_cons hi,Qm,if_neg h]
def Qx (x:Int):Value:=.int .i64 x
end
section
open Go.RowKit Ig
structure Hv (n:Nat) (p:Nat→Prop) where
 i:Nat
 le:i≤n
 h:p i
theorem Zn {w:World} {F:Gs} {b:Bool} {e:Int} (hF:Fits F w):Qc Tryz.prog 122 [.bool b,.int .i64 e] w F (.int .i64 (if b=true then e else 0)):=by
 refine QT.intro (G:=fun _=>True) Tryz.func122 rfl (by rfl) rfl rfl hF (fun F' hF'=>trivial)<|J_sr<|JS_as rfl<|JS_nt<|QG<|J_sr<|JS_mv rfl<|QE<|QC ?_
 refine QP rfl (fun hc=>?_) (fun hc=>?_)
 ·
  refine J_sr<|JS_mv rfl<|JS_as rfl<|JS_nt<|QS ?_
  exact QR () rfl (.tmp rfl .nil) (by rw [if_pos hc]) (fun _ _=>trivial)
 ·
  refine QO<|QC<|J_sr<|JS_as rfl<|JS_nt<|QS ?_
  exact QR () rfl (.tmp rfl .nil) (by rw [if_neg (by rw [hc];decide)]) (fun _ _=>trivial)
theorem Z5 {w:World} {F:Gs} {q:Option Addr} {n c:Nat} {l:List Int} (hF:Fits F w) (hR:Q4 F q n 1 (l.map Qx)) (hn:n≤1000000000):Qc Tryz.prog 104 [.slice q n c] w F (.int .i64 (Qm l)):=by
 have hln:l.length=n:=by have:=hR.1;simpa using this
 refine QT.intro (G:=fun F=>Q4 F q n 1 (l.map Qx)) Tryz.func104 rfl (by rfl) rfl rfl hF (fun F' hF'=>hR.le hF')<|J_sr<|JS_as rfl<|JS_nt<|QG<|J_sr<|JS_mv rfl<|QA (Qi rfl Zj)<|JS_mv rfl<|JS_nt<|QX<|Xa (ι:=Hv n (fun i=>Qm (l.drop i)=Qm l)) (fun i=>[(5,.slice q n c),(6,.int .i64 n),(7,.int .i64 i.i)]) (fun _=>[]) (fun _ F=>Q4 F q n 1 (l.map Qx)) (fun i=>n - i.i) ⟨0,Nat.zero_le _,rfl⟩ ⟨rfl,rfl,rfl,trivial⟩ subl_r (fun _ h=>h) (fun i=>?_)
 have hle:=i.le
 refine J_sr<|QA (QU rfl rfl rfl)<|JS_nt<|QG ?_
 refine QP rfl (fun hc=>?_) (fun hc=>?_)
 ·
  have hi:i.i<n:=by simp at hc;omega
  have hil:i.i<l.length:=by omega
  refine X3 _ (fun w F hF h=>h.ptr (by omega)) (fun hq=>?_)
  obtain ⟨qb,qo,rfl⟩:=hq
  refine QO<|QC<|QG<|QX<|J_sr<|QA (Qw rfl rfl Zj Y1 hi)<|QA (XX rfl Y1 (fun F h=>h) (by omega) (u:=.int .i64 l[i.i]) (by simp [hil,Qx]))<|JS_as rfl<|JS_nt<|J_sr<|JS_mv rfl<|QA (QU rfl rfl rfl)<|QE<|QC ?_
  refine QP rfl (fun hc=>?_) (fun hc=>?_)
  ·
   refine J_sr<|JS_mv rfl<|JS_as rfl<|JS_nt<|QS ?_
   repeat (first | refine JE ?_ | refine Q3 ?_)
   exact QR () rfl (.tmp rfl .nil) (congrArg (Value.int .i64) (i.h.symm.trans (WO hil (by simpa using hc)))) (fun _ _=>trivial)
  ·
   refine QO<|Qk<|QC<|QB<|QA (Qp rfl rfl (by omega))<|JS_mv rfl<|QE ?_
   exact Ql (⟨i.i+1,by omega,by rw [← KL hil (by simpa using hc)];exact i.h⟩:Hv n (fun i=>Qm (l.drop i)=Qm l)) (by show n - (i.i+1)<n - i.i;omega) ⟨rfl,rfl,rfl,trivial⟩ subl_r (fun _ h=>h)
 ·
  refine Qy ?_
  repeat (first | refine QZ ?_ | refine QV (by rfl) ?_)
  refine Qa<|QC<|J_sr<|JS_as rfl<|JS_nt<|QS ?_
  exact QR () rfl (.tmp rfl .nil) (by rw [← i.h,List.drop_of_length_le (by simp at hc;omega)];rfl) (fun _ _=>trivial)
theorem La {s:List UInt8} {i:Nat} (hi:i<s.length) (h:XH (s.take i)=true) (hd:UQ s[i]=true):XH (s.take (i+1))=true:=by
 rw [List.take_succ_eq_append_getElem hi,X8,h];simp [XH,hd]
theorem Rq {s:List UInt8} {i:Nat} (hi:i<s.length) (hd:UQ s[i]=false):XH s=false:=by
 cases h:XH s with
 |false=>rfl
 |true=>rw [XH,List.all_eq_true] at h;rw [h _ (List.getElem_mem hi)] at hd;cases hd
def Wc (s:List UInt8):Bool:=XH s&&!s.isEmpty
theorem Bn {w:World} {F:Gs} {s:List UInt8} (hF:Fits F w) (hl:s.length≤1000000000):Qc Tryz.prog 168 [tx s] w F (.bool (Wc s)):=by
 refine QT.intro (G:=fun _=>True) Tryz.func168 rfl (by rfl) rfl rfl hF (fun F' hF'=>trivial)<|J_sr<|JS_as rfl<|JS_nt<|QG<|J_sr<|JS_mv rfl<|QA (XA rfl Xn)<|JS_mv rfl<|JS_nt<|QX<|Xa (ι:=Hv s.length (fun i=>XH (s.take i)=true)) (fun i=>[(0,tx s),(5,.int .i64 s.length),(6,.int .i64 i.i)]) (fun _=>[]) (fun _ _=>True) (fun i=>s.length - i.i) ⟨0,Nat.zero_le _,rfl⟩ ⟨rfl,rfl,rfl,trivial⟩ subl_r (fun _ h=>h) (fun i=>?_)
 have hle:=i.le
 refine J_sr<|QA (QU rfl rfl rfl)<|JS_nt<|QG ?_
 refine QP rfl (fun hc=>?_) (fun hc=>?_)
 ·
  have hi:i.i<s.length:=by simp at hc;omega
  refine QO<|QC<|QG<|QX<|J_sr<|JS_mv rfl<|JS_as rfl<|JS_nt<|J_sr<|JS_mv rfl<|JS_mv rfl<|QA (Vw rfl rfl Xn (hi))<|QA (QU rfl rfl rfl)<|JS_mv rfl ?_
  refine Qn (t:=13) rfl (fun hb13=>?_) (fun hb13=>?_)
  ·
   refine QN rfl rfl rfl<|QN rfl rfl rfl<|QN rfl rfl rfl<|QN rfl rfl rfl<|QA (Qj rfl rfl rfl)<|QE<|QC ?_
   refine QP rfl (fun hc=>?_) (fun hc=>?_)
   ·
    refine J_sr<|JS_as rfl<|JS_nt<|QS ?_
    repeat (first | refine JE ?_ | refine Q3 ?_)
    exact QR () rfl (.tmp rfl .nil) (congrArg Value.bool (by unfold Wc;rw [Rq hi (by have h1:=dec_t hb13;cases hd:UQ s[i.i] with | false=>rfl | true=>(have:=Ye.1 hd;omega))];rfl)) (fun _ _=>trivial)
   ·
    refine QO<|Qk<|QC<|QB<|QA (Qp rfl rfl (by omega))<|JS_mv rfl<|QE ?_
    cases hc
  ·
   refine QJ rfl rfl<|JS_mv rfl<|QJ rfl rfl<|JS_mv rfl<|QJ rfl rfl<|QA (Vw rfl rfl Xn (hi))<|QJ rfl rfl<|QA (QU rfl rfl rfl)<|QA (Qh rfl rfl rfl)<|QE<|QC ?_
   refine QP rfl (fun hc=>?_) (fun hc=>?_)
   ·
    refine J_sr<|JS_as rfl<|JS_nt<|QS ?_
    repeat (first | refine JE ?_ | refine Q3 ?_)
    exact QR () rfl (.tmp rfl .nil) (congrArg Value.bool (by unfold Wc;rw [Rq hi (by have h1:=dec_t hc;cases hd:UQ s[i.i] with | false=>rfl | true=>(have:=Ye.1 hd;omega))];rfl)) (fun _ _=>trivial)
   ·
    refine QO<|Qk<|QC<|QB<|QA (Qp rfl rfl (by omega))<|JS_mv rfl<|QE ?_
    exact Ql (⟨i.i+1,by omega,La hi i.h (Ye.2 (by have h1:=dec_f hb13;have h2:=dec_f hc;constructor<;>omega))⟩:Hv s.length (fun i=>XH (s.take i)=true)) (by show s.length - (i.i+1)<s.length - i.i;omega) ⟨rfl,rfl,rfl,trivial⟩ subl_r (fun _ h=>h)
 ·
  refine Qy ?_
  repeat (first | refine QZ ?_ | refine QV (by rfl) ?_)
  refine Qa<|QC<|J_sr<|JS_mv rfl<|QA (L4 rfl rfl)<|JS_as rfl<|JS_nt<|QS ?_
  exact QR () rfl (.tmp rfl .nil) (congrArg Value.bool (by have h1:=i.h;rw [List.take_of_length_le (by simp at hc;omega)] at h1;unfold Wc;rw [h1];cases s<;>rfl)) (fun _ _=>trivial)
theorem head_ne {s:List UInt8} (h:0<s.length):((s[0].toNat:Int) != 48)=!(s.head?==some 48):=by
 cases s with
 |nil=>simp at h
 |cons c s =>
  simp only [List.getElem_cons_zero,List.head?_cons]
  by_cases e:c=48
  ·subst e;rfl
  ·have e1:c.toNat≠48:=fun h=>e (UInt8.toNat.inj (by rw [h];rfl))
   have e2:((c.toNat:Int) != 48)=true:=by simp only [bne_iff_ne,ne_eq];omega
   have e3:(some c==some 48)=false:=by simp [e]
   rw [e2,e3];rfl
theorem T4 {s:List UInt8} (h:Wc s=true):0<s.length:=by
 cases s with
 |nil=>cases h
 |cons=>simp
theorem NV {w:World} {F:Gs} {s:List UInt8} (hF:Fits F w) (hl:s.length≤1000000000):Qc Tryz.prog 162 [tx s] w F (.bool (XU s)):=by
 refine QT.intro (G:=fun _=>True) Tryz.func162 rfl (by rfl) rfl rfl hF (fun F' hF'=>trivial)<|J_sr<|JS_as rfl<|JS_nt<|J_sr<|JS_mv rfl<|QH rfl (fun w F hF _=>Bn hF hl) (fun _=>JS_mv rfl ?_)
 refine Qn (t:=5) rfl (fun hb5=>?_) (fun hb5=>?_)
 ·
  refine QJ rfl rfl<|JS_mv rfl<|QJ rfl rfl<|QA (KY rfl rfl)<|QJ rfl rfl<|JS_mv rfl ?_
  refine Qn (t:=8) rfl (fun hb8=>?_) (fun hb8=>?_)
  ·
   refine QN rfl rfl rfl<|QN rfl rfl rfl<|QN rfl rfl rfl<|QJ rfl rfl<|QA (Qj rfl rfl rfl)<|QA (Qj rfl rfl rfl)<|JS_as rfl<|JS_nt<|QS ?_
   exact QR () rfl (.tmp rfl .nil) (congrArg Value.bool (by have h:=hb5;unfold Wc at h;unfold XU;rw [h,hb8];rfl)) (fun _ _=>trivial)
  ·
   refine QJ rfl rfl<|JS_mv rfl<|QJ rfl rfl<|QA (Vw (i:=0) rfl rfl Xn (T4 hb5))<|QJ rfl rfl<|QA (QU rfl rfl rfl)<|QJ rfl rfl<|QA (Qh rfl rfl rfl)<|QA (Qj rfl rfl rfl)<|JS_as rfl<|JS_nt<|QS ?_
   exact QR () rfl (.tmp rfl .nil) (congrArg Value.bool (by have h:=hb5;unfold Wc at h;unfold XU;rw [h,hb8,head_ne (T4 hb5)];rfl)) (fun _ _=>trivial)
 ·
  refine QN rfl rfl rfl<|QN rfl rfl rfl<|QN rfl rfl rfl<|JU rfl rfl<|JU rfl rfl<|JU rfl rfl<|QN rfl rfl rfl<|QA (Qh rfl rfl rfl)<|JS_as rfl<|JS_nt<|QS ?_
  exact QR () rfl (.tmp rfl .nil) (congrArg Value.bool (by have h:=hb5;unfold Wc at h;unfold XU;rw [h];rfl)) (fun _ _=>trivial)
end
section
open Go.RowKit Ig
def UW (size d:List UInt8) (neg fr:Bool):Bool:=!XU size||(neg&&size==[48])||(fr&&(!XU d||d==[48]||d==[49]))
def Wk (n d:List UInt8) (fr:Bool):Int :=
 if UW (Lib.trimPrefix n [45]) d (Lib.hasPrefix n [45]) fr=true then 1
 else if(decide (600<(Lib.trimPrefix n [45]).length)||decide (600<d.length))=true then 4
 else if(fr&&!(Nat.gcd (JB (Lib.trimPrefix n [45])) (JB d)==1))=true then 1 else 0
def Ja (s:List UInt8):Int:=Wk (ZS 47 s).1 (ZS 47 s).2.1 (ZS 47 s).2.2
theorem Br (c:UInt8) (s:List UInt8):(ZS c s).1.length≤s.length∧(ZS c s).2.1.length≤s.length:=by
 have h:=K7 (· != c) s
 have h1:=congrArg List.length h.1
 have h2:=congrArg List.length h.2
 simp at h1 h2
 unfold ZS
 split
 ·refine⟨?_,?_⟩
  ·show(s.takeWhile (· != c)).length≤_
   exact(List.takeWhile_sublist _).length_le
  ·show((s.dropWhile (· != c)).drop 1).length≤_
   rw [List.length_drop]
   have:=(List.dropWhile_sublist (l:=s) (· != c)).length_le
   omega
 ·exact⟨Nat.le_refl _,by simp⟩
theorem VE {s:List UInt8} (h:XU s=true):XH s=true:=by
 simp only [XU,Bool.and_eq_true] at h;exact h.1.1
theorem Dv (s p:List UInt8):(Lib.trimPrefix s p).length≤s.length:=by unfold Lib.trimPrefix;split<;>simp
theorem E8 {w:World} {F:Gs} {s:List UInt8} (hF:Fits F w) (hG:JC F) (hl:s.length≤1000000):Qc Tryz.prog 68 [tx s] w F (.int .i64 (Ja s)):=by
 have hcl:=Br 47 s
 unfold Ja
 refine QT.intro (G:=fun F=>JC F) Tryz.func68 rfl (by rfl) rfl rfl hF (fun F' hF'=>hG.le hF')<|J_sr<|JS_as rfl<|JS_nt<|J_sr<|JS_mv rfl<|QH rfl (fun w F hF hGl=>FK hF hGl (by omega)) (fun _=>?_)
 rw [SF]
 generalize ZS 47 s=cp at hcl ⊢
 obtain ⟨n,d,fr⟩:=cp
 dsimp only at hcl ⊢
 have htl:=Dv n [45]
 refine JS_mv rfl<|QA (QK rfl rfl)<|QA (QK rfl rfl)<|QA (QK rfl rfl)<|JS_as rfl<|JS_as rfl<|JS_as rfl<|JS_nt<|J_sr<|JS_mv rfl<|QH rfl (fun w F hF h9=>EG hF ) (fun _=>JS_mv rfl<|QA (QK rfl rfl)<|QA (QK rfl rfl)<|JS_as rfl<|JS_as rfl<|JS_nt<|QG ?_)
 refine VR 46 (.bool (UW (Lib.trimPrefix n [45]) d (Lib.hasPrefix n [45]) fr)) ?_ ?_
 ·
  refine QB<|JS_mv rfl<|QH rfl (fun w F hF h9=>NV hF (by omega)) (fun _=>QA (Z0 rfl)<|JS_mv rfl ?_)
  refine Qn (t:=24) rfl (fun hb24=>?_) (fun hb24=>?_)
  ·
   refine QN rfl rfl rfl<|QN rfl rfl rfl<|JU rfl rfl<|JU rfl rfl<|QN rfl rfl rfl<|QA (Qj rfl rfl rfl)<|JS_mv rfl<|QN rfl rfl rfl<|QN rfl rfl rfl<|JU rfl rfl<|JU rfl rfl<|JU rfl rfl<|JU rfl rfl<|JU rfl rfl<|JU rfl rfl<|JU rfl rfl<|JU rfl rfl<|JU rfl rfl<|JU rfl rfl<|JU rfl rfl<|QN rfl rfl rfl<|QA (Qj rfl rfl rfl)<|QE ?_
   exact Jo (exd 27 rfl rfl) (congrArg (fun b=>some (Value.bool b)) (by rw [Bool.eq_iff_iff];simp_all [UW])) subl_r (fun _ h=>h.1)
  ·
   refine QJ rfl rfl<|JS_mv rfl<|QJ rfl rfl<|JS_mv rfl ?_
   refine Qn (t:=26) rfl (fun hb26=>?_) (fun hb26=>?_)
   ·
    refine QJ rfl rfl<|JS_mv rfl<|QJ rfl rfl<|QA (KY rfl rfl)<|QJ rfl rfl<|QA (Qj rfl rfl rfl)<|QA (Qh rfl rfl rfl)<|JS_mv rfl ?_
    refine Qn (t:=31) rfl (fun hb31=>?_) (fun hb31=>?_)
    ·
     refine QN rfl rfl rfl<|QN rfl rfl rfl<|JU rfl rfl<|JU rfl rfl<|JU rfl rfl<|JU rfl rfl<|JU rfl rfl<|JU rfl rfl<|JU rfl rfl<|JU rfl rfl<|JU rfl rfl<|JU rfl rfl<|JU rfl rfl<|QN rfl rfl rfl<|QA (Qj rfl rfl rfl)<|QE ?_
     exact Jo (exd 29 rfl rfl) (congrArg (fun b=>some (Value.bool b)) (by rw [Bool.eq_iff_iff];simp_all [UW])) subl_r (fun _ h=>h.1)
    ·
     refine QJ rfl rfl<|JS_mv rfl<|QJ rfl rfl<|JS_mv rfl ?_
     refine Qn (t:=33) rfl (fun hb33=>?_) (fun hb33=>?_)
     ·
      refine QJ rfl rfl<|JS_mv rfl<|QJ rfl rfl<|QH rfl (fun w F hF h9=>NV hF (by omega)) (fun _=>QJ rfl rfl<|QA (Z0 rfl)<|QJ rfl rfl<|JS_mv rfl ?_)
      refine Qn (t:=37) rfl (fun hb37=>?_) (fun hb37=>?_)
      ·
       refine QN rfl rfl rfl<|QN rfl rfl rfl<|QJ rfl rfl<|QA (Qj rfl rfl rfl)<|QJ rfl rfl<|JS_mv rfl<|QN rfl rfl rfl<|QN rfl rfl rfl<|QJ rfl rfl<|QA (Qj rfl rfl rfl)<|QJ rfl rfl<|QA (Qj rfl rfl rfl)<|QA (Qh rfl rfl rfl)<|QE ?_
       exact Jo (exd 31 rfl rfl) (congrArg (fun b=>some (Value.bool b)) (by rw [Bool.eq_iff_iff];simp_all [UW])) subl_r (fun _ h=>h.1.1)
      ·
       refine QJ rfl rfl<|JS_mv rfl<|QJ rfl rfl<|QA (KY rfl rfl)<|QJ rfl rfl<|QA (Qh rfl rfl rfl)<|QJ rfl rfl<|JS_mv rfl ?_
       refine Qn (t:=41) rfl (fun hb41=>?_) (fun hb41=>?_)
       ·
        refine QN rfl rfl rfl<|QN rfl rfl rfl<|QJ rfl rfl<|QA (Qj rfl rfl rfl)<|QJ rfl rfl<|QA (Qj rfl rfl rfl)<|QA (Qh rfl rfl rfl)<|QE ?_
        exact Jo (exd 32 rfl rfl) (congrArg (fun b=>some (Value.bool b)) (by rw [Bool.eq_iff_iff];simp_all [UW])) subl_r (fun _ h=>h.1.1)
       ·
        refine QJ rfl rfl<|JS_mv rfl<|QJ rfl rfl<|QA (KY rfl rfl)<|QJ rfl rfl<|QA (Qh rfl rfl rfl)<|QJ rfl rfl<|QA (Qj rfl rfl rfl)<|QA (Qh rfl rfl rfl)<|QE ?_
        exact Jo (exd 32 rfl rfl) (congrArg (fun b=>some (Value.bool b)) (by rw [Bool.eq_iff_iff];simp_all [UW])) subl_r (fun _ h=>h.1.1)
     ·
      refine QN rfl rfl rfl<|QN rfl rfl rfl<|QN rfl rfl rfl<|QN rfl rfl rfl<|JU rfl rfl<|JU rfl rfl<|QN rfl rfl rfl<|QN rfl rfl rfl<|JU rfl rfl<|JU rfl rfl<|QN rfl rfl rfl<|QJ rfl rfl<|QA (Qh rfl rfl rfl)<|QA (Qh rfl rfl rfl)<|QE ?_
      exact Jo (exd 30 rfl rfl) (congrArg (fun b=>some (Value.bool b)) (by rw [Bool.eq_iff_iff];simp_all [UW])) subl_r (fun _ h=>h.1)
   ·
    refine QN rfl rfl rfl<|QN rfl rfl rfl<|QJ rfl rfl<|QA (Qh rfl rfl rfl)<|QA (Qh rfl rfl rfl)<|JS_mv rfl<|QJ rfl rfl<|JS_mv rfl<|QJ rfl rfl<|JS_mv rfl ?_
    refine Qn (t:=33) rfl (fun hb33=>?_) (fun hb33=>?_)
    ·
     refine QJ rfl rfl<|JS_mv rfl<|QJ rfl rfl<|QH rfl (fun w F hF h9=>NV hF (by omega)) (fun _=>QJ rfl rfl<|QA (Z0 rfl)<|QJ rfl rfl<|JS_mv rfl ?_)
     refine Qn (t:=37) rfl (fun hb37=>?_) (fun hb37=>?_)
     ·
      refine QN rfl rfl rfl<|QN rfl rfl rfl<|QJ rfl rfl<|QA (Qj rfl rfl rfl)<|QJ rfl rfl<|JS_mv rfl<|QN rfl rfl rfl<|QN rfl rfl rfl<|QJ rfl rfl<|QA (Qj rfl rfl rfl)<|QJ rfl rfl<|QA (Qj rfl rfl rfl)<|QA (Qh rfl rfl rfl)<|QE ?_
      exact Jo (exd 30 rfl rfl) (congrArg (fun b=>some (Value.bool b)) (by rw [Bool.eq_iff_iff];simp_all [UW])) subl_r (fun _ h=>h.1.1)
     ·
      refine QJ rfl rfl<|JS_mv rfl<|QJ rfl rfl<|QA (KY rfl rfl)<|QJ rfl rfl<|QA (Qh rfl rfl rfl)<|QJ rfl rfl<|JS_mv rfl ?_
      refine Qn (t:=41) rfl (fun hb41=>?_) (fun hb41=>?_)
      ·
       refine QN rfl rfl rfl<|QN rfl rfl rfl<|QJ rfl rfl<|QA (Qj rfl rfl rfl)<|QJ rfl rfl<|QA (Qj rfl rfl rfl)<|QA (Qh rfl rfl rfl)<|QE ?_
       exact Jo (exd 31 rfl rfl) (congrArg (fun b=>some (Value.bool b)) (by rw [Bool.eq_iff_iff];simp_all [UW])) subl_r (fun _ h=>h.1.1)
      ·
       refine QJ rfl rfl<|JS_mv rfl<|QJ rfl rfl<|QA (KY rfl rfl)<|QJ rfl rfl<|QA (Qh rfl rfl rfl)<|QJ rfl rfl<|QA (Qj rfl rfl rfl)<|QA (Qh rfl rfl rfl)<|QE ?_
       exact Jo (exd 31 rfl rfl) (congrArg (fun b=>some (Value.bool b)) (by rw [Bool.eq_iff_iff];simp_all [UW])) subl_r (fun _ h=>h.1.1)
    ·
     refine QN rfl rfl rfl<|QN rfl rfl rfl<|QN rfl rfl rfl<|QN rfl rfl rfl<|JU rfl rfl<|JU rfl rfl<|QN rfl rfl rfl<|QN rfl rfl rfl<|JU rfl rfl<|JU rfl rfl<|QN rfl rfl rfl<|QJ rfl rfl<|QA (Qh rfl rfl rfl)<|QA (Qh rfl rfl rfl)<|QE ?_
     exact Jo (exd 29 rfl rfl) (congrArg (fun b=>some (Value.bool b)) (by rw [Bool.eq_iff_iff];simp_all [UW])) subl_r (fun _ h=>h.1)
 ·
  refine QP rfl (fun hc46=>?_) (fun hc46=>?_)
  ·
   refine J_sr<|JS_as rfl<|JS_nt<|QS ?_
   exact QR () rfl (.tmp rfl .nil) (congrArg (Value.int .i64) (by unfold Wk;rw [if_pos hc46])) (fun _ _=>trivial)
  ·
   refine QO<|QC<|QG ?_
   refine VR 54 (.bool (decide (600<(Lib.trimPrefix n [45]).length)||decide (600<d.length))) ?_ ?_
   ·
    refine QB<|JS_mv rfl<|QA (XA rfl Xn)<|QA (QU rfl rfl rfl)<|JS_mv rfl ?_
    refine Qn (t:=50) rfl (fun hb50=>?_) (fun hb50=>?_)
    ·
     refine QN rfl rfl rfl<|QN rfl rfl rfl<|QN rfl rfl rfl<|QA (Qj rfl rfl rfl)<|QE ?_
     exact Jo (exd 9 rfl rfl) (congrArg (fun b=>some (Value.bool b)) (by simp at *;first | omega | (rw [Bool.eq_iff_iff];simp;omega))) subl_r (fun _ h=>h)
    ·
     refine QJ rfl rfl<|JS_mv rfl<|QJ rfl rfl<|QA (XA rfl Xn)<|QJ rfl rfl<|QA (QU rfl rfl rfl)<|QA (Qh rfl rfl rfl)<|QE ?_
     exact Jo (exd 9 rfl rfl) (congrArg (fun b=>some (Value.bool b)) (by simp at *;first | omega | (rw [Bool.eq_iff_iff];simp;omega))) subl_r (fun _ h=>h)
   ·
    refine QP rfl (fun hc54=>?_) (fun hc54=>?_)
    ·
     refine J_sr<|JS_as rfl<|JS_nt<|QS ?_
     exact QR () rfl (.tmp rfl .nil) (congrArg (Value.int .i64) (by unfold Wk;rw [if_neg (by rw [hc46];decide),if_pos hc54])) (fun _ _=>trivial)
    ·
     refine QO<|QC<|QG<|J_sr<|JS_mv rfl<|QE<|QC ?_
     refine QP rfl (fun hc55=>?_) (fun hc55=>?_)
     ·
      have hl54:(Lib.trimPrefix n [45]).length≤600∧d.length≤600:=by simp at hc54;omega
      have hwh:XU (Lib.trimPrefix n [45])=true∧XU d=true:=by
       subst hc55
       simp only [UW,Bool.or_eq_false_iff,Bool.true_and,Bool.not_eq_false'] at hc46
       exact⟨hc46.1.1,hc46.2.1.1⟩
      have hsa:=VE hwh.1
      have hda:=VE hwh.2
      have hz1:=VG hsa
      have hz2:=VG hda
      refine J_sr<|JS_mv rfl<|QH rfl (fun w F hF h9=>W5 hF (by rw [ZX hsa];exact hsa) (by omega)) (fun g58=>JS_mv rfl<|QH rfl (fun w F hF h9=>W5 hF (by rw [ZX hda];exact hda) (by omega)) (fun g60=>QH rfl (fun w F hF h9=>xP hF h9.1.2 h9.2 (by rw [XK hsa];omega) (by rw [XK hda];omega)) (fun g61=>QH rfl (fun w F hF ⟨⟨⟨⟨⟨hGl,_⟩,_⟩,h58⟩,h60⟩,h61⟩=>C1 hF (by assumption)) (fun c62=>JH _ (fun w F hF h=>h.2) (fun hsm=>?_)))))
      rw [XK hsa,XK hda,Int.gcd_natCast_natCast] at hsm
      refine JS_mv rfl<|QA (QK rfl rfl)<|QA (QK rfl rfl)<|JS_as rfl<|JS_as rfl<|QE<|QC ?_
      refine VR 70 (.bool (!(Nat.gcd (JB (Lib.trimPrefix n [45])) (JB d)==1))) ?_ ?_
      ·
       refine QB<|JS_mv rfl<|QA (Z0 rfl)<|JS_mv rfl ?_
       refine Qn (t:=67) rfl (fun hb67=>?_) (fun hb67=>?_)
       ·
        refine QN rfl rfl rfl<|QN rfl rfl rfl<|QA (Qj rfl rfl rfl)<|QE ?_
        exact Jo (exd 7 rfl rfl) (congrArg (fun b=>some (Value.bool b)) (by rcases hsm with ⟨e1,e2,e3⟩ | ⟨e1,e2⟩<;>rw [Bool.eq_iff_iff]<;>simp_all<;>omega)) subl_r (fun _ h=>h)
       ·
        refine QJ rfl rfl<|JS_mv rfl<|QJ rfl rfl<|QA (QU rfl rfl rfl)<|QA (Qh rfl rfl rfl)<|QE ?_
        exact Jo (exd 7 rfl rfl) (congrArg (fun b=>some (Value.bool b)) (by rcases hsm with ⟨e1,e2,e3⟩ | ⟨e1,e2⟩<;>rw [Bool.eq_iff_iff]<;>simp_all<;>omega)) subl_r (fun _ h=>h)
      ·
       refine QP rfl (fun hc70=>?_) (fun hc70=>?_)
       ·
        refine J_sr<|JS_as rfl<|JS_nt<|QS ?_
        exact QR () rfl (.tmp rfl .nil) (congrArg (Value.int .i64) (by unfold Wk;rw [if_neg (by rw [hc46];decide),if_neg (by rw [hc54];decide),if_pos (by rw [hc55,hc70];rfl)])) (fun _ _=>trivial)
       ·
        refine QO<|QC<|J_sr<|JS_as rfl<|JS_nt<|QS ?_
        exact QR () rfl (.tmp rfl .nil) (congrArg (Value.int .i64) (by unfold Wk;rw [if_neg (by rw [hc46];decide),if_neg (by rw [hc54];decide),if_neg (by rw [hc55,hc70];decide)])) (fun _ _=>trivial)
     ·
      refine QO<|QC<|J_sr<|JS_as rfl<|JS_nt<|QS ?_
      exact QR () rfl (.tmp rfl .nil) (congrArg (Value.int .i64) (by unfold Wk;rw [if_neg (by rw [hc46];decide),if_neg (by rw [hc54];decide),if_neg (by rw [hc55];simp)])) (fun _ _=>trivial)
end
section
open Go.RowKit Ig
def Jk (s:List UInt8):Rat:=if(ZS 47 s).2.2=true then mkRat (Zz (ZS 47 s).1) (JB (ZS 47 s).2.1) else((Zz (ZS 47 s).1:Int):Rat)
theorem Dq {c:UInt8} {s:List UInt8} (h:c∈s):∃ r,s.dropWhile (· != c)=c::r:=by
 induction s with
 |nil=>cases h
 |cons b s ih =>
  simp only [List.dropWhile_cons]
  by_cases e:b=c
  ·subst e;exact⟨s,by simp⟩
  ·have h1:(b != c)=true:=by simp [e]
   rw [if_pos h1]
   exact ih (by rcases List.mem_cons.1 h with h | h;exact absurd h.symm e;exact h)
theorem Ic (c:UInt8) (s:List UInt8):((ZS c s).2.2=true→s=(ZS c s).1++c::(ZS c s).2.1)∧((ZS c s).2.2=false→s=(ZS c s).1∧(ZS c s).2.1=[]):=by
 unfold ZS
 by_cases h:s.contains c=true
 ·rw [if_pos h]
  refine⟨fun _=>?_,fun e=>(by cases e)⟩
  obtain ⟨r,hr⟩:=Dq (c:=c) (s:=s) (by simpa using h)
  have hh:s.dropWhile (· != c)=c::(s.dropWhile (· != c)).drop 1:=by rw [hr];rfl
  show s=s.takeWhile (· != c)++c::(s.dropWhile (· != c)).drop 1
  rw [← hh,List.takeWhile_append_dropWhile]
 ·rw [if_neg h]
  exact⟨fun e=>(by cases e),fun _=>⟨rfl,rfl⟩⟩
theorem PM {l:List UInt8} (h:XU l=true) (h0:l≠[48]):0<JB l:=by
 simp only [XU,Bool.and_eq_true,Bool.or_eq_true,beq_iff_eq,Bool.not_eq_true',List.isEmpty_eq_false_iff] at h
 rcases h.2 with h1 | h1
 ·exact absurd h1 h0
 ·exact(Bo h.1.1 h.1.2 (by simpa using h1)).2
theorem Ff {l:List UInt8} (h:XU l=true) (h0:l≠[48]) (h1:l≠[49]):2≤JB l:=by
 have hp:=PM h h0
 have hd:=Bp h
 rcases Nat.lt_or_ge (JB l) 2 with g | g
 ·have:JB l=1:=by omega
  rw [this] at hd
  exact absurd (hd.symm.trans (by rw [Lib.decDigits];rfl)) h1
 ·exact g
theorem qR {n:List UInt8} (h:XU (Lib.trimPrefix n [45])=true) (h0:(Lib.hasPrefix n [45]&&Lib.trimPrefix n [45]==[48])=false):X0 (Zz n)=n∧(Zz n).natAbs=JB (Lib.trimPrefix n [45]):=by
 unfold Zz
 by_cases hp:Lib.hasPrefix n [45]=true
 ·have hn:n=45::n.drop 1:=by
   cases n with
   |nil=>cases hp
   |cons c r =>
    have h45:(45==c)=true:=by simpa [Lib.hasPrefix,List.isPrefixOf] using hp
    have:45=c:=by simpa using h45
    rw [← this];rfl
  have ht:Lib.trimPrefix n [45]=n.drop 1:=by unfold Lib.trimPrefix;rw [if_pos hp];rfl
  rw [ht] at h h0 ⊢
  rw [hp,Bool.true_and] at h0
  have hpos:=PM h (by simpa using h0)
  rw [if_pos hp]
  refine⟨?_,by omega⟩
  rw [YI (by omega),show(-(JB (n.drop 1):Int)).natAbs=JB (n.drop 1) by omega,Bp h,← hn]
 ·have ht:Lib.trimPrefix n [45]=n:=by unfold Lib.trimPrefix;rw [if_neg hp]
  rw [ht] at h ⊢
  rw [if_neg hp]
  refine⟨?_,by omega⟩
  rw [J3 (by omega),show((JB n:Nat):Int).natAbs=JB n by omega,Bp h]
theorem S6 {l:List UInt8} (h:XH l=true) (hl:l.length≤600):JB l<lim:=by
 have h1:=Vv h
 have h2:10^l.length≤lim:=by have key:∀ k,l.length≤k→10^l.length≤10^k:=fun k h=>Nat.pow_le_pow_right (by decide) h;unfold lim;exact key 600 hl
 omega
theorem ZO {s:List UInt8} (h:Ja s=0):s=Jg (Jk s)∧XP (Jk s)=false:=by
 unfold Ja at h
 have hj:=Ic 47 s
 unfold Jk
 generalize ZS 47 s=c at h hj ⊢
 obtain ⟨n,d,fr⟩:=c
 dsimp only at h hj ⊢
 unfold Wk at h
 split at h
 ·cases h
 rename_i h1
 split at h
 ·cases h
 rename_i h2
 split at h
 ·cases h
 rename_i h3
 have h1':=eq_false_of_ne_true h1
 simp only [UW,Bool.or_eq_false_iff,Bool.not_eq_false'] at h1'
 obtain ⟨⟨hw,hz⟩,hf⟩:=h1'
 have hsa:=VE hw
 have hl:(Lib.trimPrefix n [45]).length≤600∧d.length≤600:=by simp at h2;omega
 obtain ⟨hn1,hn2⟩:=qR hw hz
 have hlim:=S6 hsa hl.1
 cases fr with
 |false =>
  rw [if_neg (by decide)]
  obtain ⟨hs,_⟩:=hj.2 rfl
  refine⟨?_,?_⟩
  ·unfold Jg
   rw [Rat.den_intCast,if_pos rfl,Rat.num_intCast,hn1];exact hs
  ·unfold XP BY
   rw [Rat.num_intCast,Rat.den_intCast,hn2]
   rw [decide_eq_false (by omega),Bool.false_or]
   refine decide_eq_false ?_
   have:((1:Nat):Int).natAbs<lim:=by decide +kernel
   omega
 |true =>
  rw [if_pos rfl]
  simp only [Bool.true_and,Bool.or_eq_false_iff,Bool.not_eq_false'] at hf
  obtain ⟨⟨hwd,hd0⟩,hd1⟩:=hf
  have hd2:=Ff hwd (by simpa using hd0) (by simpa using hd1)
  have hda:=VE hwd
  have hg:Nat.gcd (JB (Lib.trimPrefix n [45])) (JB d)=1:=by simpa using h3
  have hco:Nat.Coprime (Zz n).natAbs (JB d):=by rw [hn2];exact hg
  have hmk:=Rat.mk_eq_mkRat (Zz n) (JB d) (by omega) hco
  rw [← hmk]
  refine⟨?_,?_⟩
  ·unfold Jg
   show s=if JB d=1 then _ else X0 (Zz n)++47::Lib.decDigits (JB d)
   rw [if_neg (by omega),hn1,Bp hwd];exact hj.1 rfl
  ·unfold XP BY
   show(decide (lim≤(Zz n).natAbs)||decide (lim≤((JB d:Nat):Int).natAbs))=false
   have:=S6 hda hl.2
   rw [hn2,decide_eq_false (by omega),decide_eq_false (by omega)];rfl
theorem RO {r:Rat} (h:XP r=false):JO r≤2400:=by
 unfold XP BY at h
 rw [Bool.or_eq_false_iff] at h
 have h1:=dec_f h.1
 have h2:=dec_f h.2
 have e:lim≤2^2400:=by
  decide +kernel
 unfold JO
 have a:=(Xv r.num 2400).2 (Nat.lt_of_lt_of_le (Nat.lt_of_not_le h1) e)
 have b:=(Xv (r.den:Int) 2400).2 (Nat.lt_of_lt_of_le (Nat.lt_of_not_le h2) e)
 omega
theorem XR {s:List UInt8} (h:Ja s=0):JO (Jk s)≤2400:=RO (ZO h).2
end
section
open Go.RowKit Ig
theorem Ko.all {l vs:List Value} (h:vs.length=l.length):Ko l 0 vs vs:=by
 induction vs generalizing l with
 |nil=>cases l with | nil=>exact .nil | cons=>simp at h
 |cons v vs ih =>
  cases l with
  |nil=>simp at h
  |cons x l=>exact .here (ih (by simpa using h))
theorem Nu.all:∀ l:List Value,Nu l 0 l
 |[]=>.nil
 |_::l=>.here (Nu.all l)
theorem Pj:∀ {l:List Value},(∀ v∈l,v.oneCell'=true)→Hn l
 |[],_=>trivial
 |v::l,h=>⟨h v (by simp),Pj (fun u hu=>h u (by simp [hu]))⟩
theorem IV {w:World} {F:Gs} {q:Option Addr} {n c f:Nat} {cs:List Value} {vs:Nat→Value} {es:List Int} {c1 c2:List Value} {G0:Gs→Prop} (hF:Fits F w) (hg:∀ F F',Gs.le F F'→G0 F→G0 F') (h0:G0 F) (hR:Q4 F q n 1 cs) (hn:es.length=n) (hb:n≤1000000000)
  (hv:∀ i,i<n→cs[i*1]?=some (vs i)) (hc:∀ i (hi:i<es.length) w F,Fits F w→G0 F→Qc Tryz.prog f (c1++[vs i]++c2) w F (.int .i64 es[i])) :
  Qc Tryz.prog 202 [.slice q n c,.func (.func f) c1.toArray c2.toArray] w F (.int .i64 (Qm es)):=by
 refine QT.intro (G:=fun F=>G0 F∧Q4 F q n 1 cs) Tryz.func202 rfl (by rfl) rfl rfl hF (fun F' hF'=>⟨hg F F' hF' h0,hR.le hF'⟩)<|J_sr<|JS_as rfl<|JS_nt<|QG<|J_sr<|JS_mv rfl<|QA (Qi rfl Hz)<|JS_mv rfl<|JS_nt<|QX<|Xa (ι:=Hv n (fun i=>Qm (es.drop i)=Qm es)) (fun i=>[(1,.func (.func f) c1.toArray c2.toArray),(8,.slice q n c),(9,.int .i64 n),(10,.int .i64 i.i)]) (fun _=>[]) (fun _ F=>G0 F∧Q4 F q n 1 cs) (fun i=>n - i.i) ⟨0,Nat.zero_le _,rfl⟩ ⟨rfl,rfl,rfl,rfl,trivial⟩ subl_r (fun _ h=>h) (fun i=>?_)
 have hle:=i.le
 refine J_sr<|QA (QU rfl rfl rfl)<|JS_nt<|QG ?_
 refine QP rfl (fun hc1=>?_) (fun hc1=>?_)
 ·
  have hi:i.i<n:=by simp at hc1;omega
  have hil:i.i<es.length:=by omega
  refine X3 _ (fun w F hF h=>h.2.ptr (by omega)) (fun hq=>?_)
  obtain ⟨qb,qo,rfl⟩:=hq
  refine QO<|QC<|QG<|QX<|J_sr<|QA (Qw rfl rfl Hz Jy hi)<|QA (XX rfl Jy (fun F h=>h.2) (by omega) (hv i.i hi))<|JS_as rfl<|JS_nt<|J_sr<|JS_mv rfl<|JS_mv rfl<|GN rfl rfl (fun w F hF h=>hc i.i hil w F hF h.1) (fun _=>JS_as rfl<|JS_nt<|J_sr<|JS_mv rfl<|QA (QU rfl rfl rfl)<|QE<|QC ?_)
  refine QP rfl (fun hc1=>?_) (fun hc1=>?_)
  ·
   refine J_sr<|JS_mv rfl<|JS_as rfl<|JS_nt<|QS ?_
   repeat (first | refine JE ?_ | refine Q3 ?_)
   exact QR () rfl (.tmp rfl .nil) (congrArg (Value.int .i64) (i.h.symm.trans (WO hil (by simpa using hc1)))) (fun _ _=>trivial)
  ·
   refine QO<|Qk<|QC<|QB<|QA (Qp rfl rfl (by omega))<|JS_mv rfl<|QE ?_
   exact Ql (⟨i.i+1,by omega,by rw [← KL hil (by simpa using hc1)];exact i.h⟩:Hv n (fun i=>Qm (es.drop i)=Qm es)) (by show n - (i.i+1)<n - i.i;omega) ⟨rfl,rfl,rfl,rfl,trivial⟩ subl_r (fun _ h=>h.1)
 ·
  refine Qy ?_
  repeat (first | refine QZ ?_ | refine QV (by rfl) ?_)
  refine Qa<|QC<|J_sr<|JS_as rfl<|JS_nt<|QS ?_
  exact QR () rfl (.tmp rfl .nil) (by rw [← i.h,List.drop_of_length_le (by simp at hc1;omega)];rfl) (fun _ _=>trivial)
theorem AS {w:World} {F:Gs} {q:Option Addr} {n c f:Nat} {cs:List Value} {vs:Nat→List Value} {es:List Int} {c1 c2:List Value} {G0:Gs→Prop} (hF:Fits F w) (hg:∀ F F',Gs.le F F'→G0 F→G0 F') (h0:G0 F) (hR:Q4 F q n 2 cs) (hn:es.length=n) (hb:n≤1000000000)
  (hv:∀ i,i<n→(vs i).length=2∧∀ j v,(vs i)[j]?=some v→cs[i*2+j]?=some v) (h1:∀ i,i<n→∀ v∈vs i,v.oneCell'=true) (hc:∀ i (hi:i<es.length) w F,Fits F w→G0 F→Qc Tryz.prog f (c1++[.agg (vs i).toArray]++c2) w F (.int .i64 es[i])) :
  Qc Tryz.prog 151 [.slice q n c,.func (.func f) c1.toArray c2.toArray] w F (.int .i64 (Qm es)):=by
 refine QT.intro (G:=fun F=>G0 F∧Q4 F q n 2 cs) Tryz.func151 rfl (by rfl) rfl rfl hF (fun F' hF'=>⟨hg F F' hF' h0,hR.le hF'⟩)<|J_sr<|JS_as rfl<|JS_nt<|QG<|J_sr<|JS_mv rfl<|QA (Qi rfl Sv)<|JS_mv rfl<|JS_nt<|QX<|Xa (ι:=Hv n (fun i=>Qm (es.drop i)=Qm es)) (fun i=>[(1,.func (.func f) c1.toArray c2.toArray),(8,.slice q n c),(9,.int .i64 n),(10,.int .i64 i.i)]) (fun _=>[]) (fun _ F=>G0 F∧Q4 F q n 2 cs) (fun i=>n - i.i) ⟨0,Nat.zero_le _,rfl⟩ ⟨rfl,rfl,rfl,rfl,trivial⟩ subl_r (fun _ h=>h) (fun i=>?_)
 have hle:=i.le
 refine J_sr<|QA (QU rfl rfl rfl)<|JS_nt<|QG ?_
 refine QP rfl (fun hc1=>?_) (fun hc1=>?_)
 ·
  have hi:i.i<n:=by simp at hc1;omega
  have hil:i.i<es.length:=by omega
  refine X3 _ (fun w F hF h=>h.2.ptr (by omega)) (fun hq=>?_)
  obtain ⟨qb,qo,rfl⟩:=hq
  refine QO<|QC<|QG<|QX<|J_sr<|QA (Qw rfl rfl Sv Js hi)<|QA (DL rfl Js (fun F h=>h.2) (by omega) (hv i.i hi).1 (hv i.i hi).2)<|Qf Yk (fun b6=>QQ (vs:=vs i.i) (l':=vs i.i) rfl rfl rfl Js (hv i.i hi).1 .here (Ko.all (hv i.i hi).1) (Pj (h1 i.i hi))<|JS_nt<|J_sr<|JS_mv rfl<|QA (QL (vs:=vs i.i) rfl Js .here (Nu.all _) (hv i.i hi).1)<|GN rfl rfl (fun w F hF h=>hc i.i hil w F hF h.1) (fun _=>JS_as rfl<|JS_nt<|J_sr<|JS_mv rfl<|QA (QU rfl rfl rfl)<|QE ?_))
  refine QC ?_
  refine QP rfl (fun hc1=>?_) (fun hc1=>?_)
  ·
   refine J_sr<|JS_mv rfl<|JS_as rfl<|JS_nt<|QS ?_
   repeat (first | refine JE ?_ | refine Q3 ?_)
   exact QR () rfl (.tmp rfl .nil) (congrArg (Value.int .i64) (i.h.symm.trans (WO hil (by simpa using hc1)))) (fun _ _=>trivial)
  ·
   refine QO<|Qk<|QC<|QB<|QA (Qp rfl rfl (by omega))<|JS_mv rfl<|QE ?_
   exact Ql (⟨i.i+1,by omega,by rw [← KL hil (by simpa using hc1)];exact i.h⟩:Hv n (fun i=>Qm (es.drop i)=Qm es)) (by show n - (i.i+1)<n - i.i;omega) ⟨rfl,rfl,rfl,rfl,trivial⟩ (List.sublist_cons_self _ _) (fun _ h=>h.1)
 ·
  refine Qy ?_
  repeat (first | refine QZ ?_ | refine QV (by rfl) ?_)
  refine Qa<|QC<|J_sr<|JS_as rfl<|JS_nt<|QS ?_
  exact QR () rfl (.tmp rfl .nil) (by rw [← i.h,List.drop_of_length_le (by simp at hc1;omega)];rfl) (fun _ _=>trivial)
theorem FO {w:World} {F:Gs} {q:Option Addr} {n c:Nat} {l:List (List UInt8)} (hF:Fits F w) (hG:JC F) (hR:Q4 F q n 1 (l.map tx)) (hl:n≤1000000∧∀ s∈l,s.length≤1000000):Qc Tryz.prog 121 [.slice q n c] w F (.int .i64 (Qm (l.map Ja))):=by
 have hln:l.length=n:=by have:=hR.1;simpa using this
 refine QT.intro (G:=fun F=>JC F∧Q4 F q n 1 (l.map tx)) Tryz.func121 rfl (by rfl) rfl rfl hF (fun F' hF'=>⟨hG.le hF',hR.le hF'⟩)<|J_sr<|JS_as rfl<|JS_nt<|J_sr<|JS_mv rfl ?_
 refine QH rfl (fun w F hF ⟨hGl,hR⟩=>IV (c1:=[]) (c2:=[]) (vs:=fun i=>tx (l.getD i [])) (es:=l.map Ja) (G0:=JC) hF (fun _ _ h k=>k.le h) hGl hR (by simpa using hln) (by omega) (fun i hi=>by
  have:i<l.length:=by omega
  simp [this]) (fun i hi w F hF hG=>by
  have hi':i<l.length:=by simpa using hi
  have e:l.getD i []=l[i]:=by simp [hi']
  have:=E8 hF hG (hl.2 l[i] (List.getElem_mem hi'))
  rw [List.getElem_map]
  show Qc _ _ [tx (l.getD i [])] _ _ _
  rw [e];exact this)) (fun c4=>?_)
 refine JS_as rfl<|JS_nt<|QS ?_
 exact QR () rfl (.tmp rfl .nil) rfl (fun _ _=>trivial)
def NP (r:Rat):List UInt8×Int:=if XP r=true then([],4) else(Jg r,0)
theorem IP {w:World} {F:Gs} {x:Fr} {r:Rat} (hF:Fits F w) (hG:JC F) (h:JV F x r) (hz:JO r≤100000000):Qc Tryz.prog 106 [x.v] w F (.tuple #[tx (NP r).1,.int .i64 (NP r).2]):=by
 refine QT.intro (G:=fun F=>JC F∧JV F x r) Tryz.func106 rfl (by rfl) rfl rfl hF (fun F' hF'=>⟨hG.le hF',h.le hF'⟩)<|J_sr<|Q5 rfl (vs:=[_,_,_,_]) rfl (fun b1=>JS_as rfl<|JS_as rfl<|JS_nt<|QG<|J_sr<|QA (QL (vs:=[_,_,_,_]) rfl Qe .here (.here (.here (.here (.here .nil)))) rfl)<|QH rfl (fun w F hF h9=>Bh (x:=x) (r:=r) hF h9.1 ⟨h9.2.1,h9.2.2⟩ hz) (fun _=>QE<|QC ?_))
 refine QP rfl (fun hc=>?_) (fun hc=>?_)
 ·
  refine J_sr<|JS_as rfl<|JS_as rfl<|JS_nt<|QS ?_
  exact JX () rfl (.tmp rfl (.tmp rfl .nil)) (by unfold NP;rw [if_pos hc]) (fun _ _=>trivial)
 ·
  refine QO<|QC<|J_sr<|QA (QL (vs:=[_,_,_,_]) rfl Qe .here (.here (.here (.here (.here .nil)))) rfl)<|QH rfl (fun w F hF h9=>E2 (x:=x) (r:=r) hF h9.1.1 ⟨h9.1.2.1,h9.1.2.2⟩ hz) (fun _=>JS_as rfl<|JS_as rfl<|JS_nt<|QS ?_)
  exact JX () rfl (.tmp rfl (.tmp rfl .nil)) (by unfold NP;rw [if_neg (by rw [hc];decide)]) (fun _ _=>trivial)
theorem T9 {w:World} {F:Gs} {b:Int} (hF:Fits F w):Qc Tryz.prog 105 [.int .i64 b] w F (.int .i64 (if b<0∨b>64 then 3 else 0)):=by
 refine QT.intro (G:=fun _=>True) Tryz.func105 rfl (by rfl) rfl rfl hF (fun F' hF'=>trivial)<|J_sr<|JS_as rfl<|JS_nt<|J_sr<|JS_mv rfl<|QA (QU rfl rfl rfl)<|JS_mv rfl ?_
 refine Qn (t:=5) rfl (fun hb5=>?_) (fun hb5=>?_)
 ·
  refine QN rfl rfl rfl<|QN rfl rfl rfl<|QA (Qj rfl rfl rfl)<|QH rfl (fun w F hF _=>Zn hF ) (fun _=>JS_as rfl<|JS_nt<|QS ?_)
  exact QR () rfl (.tmp rfl .nil) (congrArg (Value.int .i64) (by simp at *;try omega)) (fun _ _=>trivial)
 ·
  refine QJ rfl rfl<|JS_mv rfl<|QJ rfl rfl<|QA (QU rfl rfl rfl)<|QA (Qh rfl rfl rfl)<|QH rfl (fun w F hF _=>Zn hF ) (fun _=>JS_as rfl<|JS_nt<|QS ?_)
  exact QR () rfl (.tmp rfl .nil) (congrArg (Value.int .i64) (by simp at *;try omega)) (fun _ _=>trivial)
theorem AL {w:World} {F:Gs} {b:Int} (hF:Fits F w) (h0:0≤b) (h1:b≤64):Xe Tryz.prog 111 [.int .i64 b] w F (2^b.toNat):=by
 refine QT.intro (G:=fun _=>True) Tryz.func111 rfl (by rfl) rfl rfl hF (fun F' hF'=>trivial)<|J_sr<|Qf ZW (fun b2=>JS_nt<|J_sr<|QH rfl (fun w F hF _=>M9 hF (by omega) (by omega)) (fun g3=>JS_mv rfl<|QH rfl (fun w F hF ⟨_,h3⟩=>TD hF (by assumption) h0 (by omega) (by have e:sz 2=2:=(by decide);rw [e];omega)) (fun g5=>QQ (vs:=[_,_]) rfl rfl rfl QY rfl .here (.here (.here .nil)) ⟨rfl,rfl,trivial⟩<|JS_nt<|QS ?_)))
 exact QR (_) rfl (.Jc (c:=[_,_]) rfl QY .here .nil) rfl (fun F h9=>h9.2)
theorem M7 {w:World} {F:Gs} {g:Bg} {a b:Int} (hF:Fits F w) (h:Jq F g a) (h0:0≤b) (h1:b≤64) (hz:sz a≤100000000):ZE Tryz.prog 107 [g.v,.int .i64 b] w F (Rat.divInt a (2^b.toNat)):=by
 refine QT.intro (G:=fun F=>Jq F g a) Tryz.func107 rfl (by rfl) rfl rfl hF (fun F' hF'=>h.le hF')<|J_sr<|Q5 rfl (vs:=[_,_]) rfl (fun b2=>Qf Xp (fun b4=>JS_nt<|QG<|JR (.cons _ (.cons_cons _ .slnil)) mixed (by kernel_rfl)<|QM (QL (vs:=[_,_]) rfl QY .here (.here (.here .nil)) rfl)<|QM (QD rfl)<|Qg rfl (fun w F hF hB=>AL hF h0 h1) (fun g7=>Qg rfl (fun w F hF ⟨hB,h7⟩=>NG hF hB (by assumption) (Int.ne_of_gt (Int.pow_pos (by decide))) (Nat.le_trans hz (by decide)) (by have:=Hg 2 b.toNat;have e:sz 2=2:=(by decide);rw [e] at this;omega)) (fun x8=>Jh (vs:=[_,_,_,_]) rfl rfl rfl Qe rfl .here (.cons_cons _ .slnil) (fun _ h=>h.1.1) (.here (.here (.here (.here .nil)))) ⟨rfl,rfl,rfl,rfl,trivial⟩<|Q9<|QC<|QS ?_))))
 exact QR (_) rfl (.Jc (c:=[_,_,_,_]) rfl Qe .here .nil) rfl (fun F h9=>⟨h9.2.1,h9.2.2⟩)
end
end Go.Proofs.YtknegjaeoffnbaaGreatDoor
