/- Steps of the proof of the theorem in the last file. -/
import Derived.Test.YtjcphjpkimmmjaaGreatDoorP3
set_option linter.all false
set_option maxHeartbeats 4000000
open List renaming length_map → aa,cons_append → ab,nil_append → af,mem_map_of_mem → aq,map_append → au,length_range → ay,foldl_append → az,length_append → aC,range → aE,getElem?_toArray → aG,range_succ → aI,getElem_of_mem → aL,perm_append_comm → aM,take_succ_cons → aO,drop_succ_cons → aP,take_length → aR,length_cons → aS,map → aT,take_zero → aV,getElem_map → aW,drop_zero → aX,mem_cons → bh,not_mem_nil → bp,append_nil → bw,length → bD,map_cons → bH,take_of_length_le → bJ,map_map → bK,length_set → bN,length_take → bU,getElem_append_right → ea,getElem_append_left → eb,map_set → ee,map_nil → ef,getElem_cons_zero → ei,drop_of_length_le → ek,take_eq_take_min → ew,singleton_append → ey,getElem?_eq_none → eB,flatMap_append → eF,replicate → eL,any_map → eM,foldl → eV
open Rat renaming mul_le_mul_of_nonneg_right → ae,mul_nonneg → aj,le_refl → ak,divInt → aw,le_trans → aA,le_of_lt → aB,div_def → aD,inv_mul_cancel → aJ,mul_assoc → aK,mul_le_mul_of_nonneg_left → aN,mul_one → aQ,mul_lt_mul_of_pos_right → aZ,pow_zero → ba,pow_succ → bc,intCast_lt_intCast → bm,intCast_mul → bA,zero_mul → bC,one_mul → bF,floor_intCast → bG,mul_inv_cancel → bQ,floor_monotone → bR,zero_add → bS,intCast_neg → bX,add_zero → ep,neg_mul → eD,mul_comm → eO,le_total → eP
open Nat renaming le_refl → ag,le_trans → ai,mul_le_mul_right → ao,mul_le_mul_left → av,zero_add → aF,zero_le → aH,add_mul → aU,mul_le_mul → aY,mul_zero → bf,not_lt_zero → bj,min_le_right → bI,mul_succ → bL,add_zero → bM,lt_or_ge → bT,le_add_right → bV,pow_pos → bW,le_max_left → bY,le_add_left → bZ,zero_mul → er,mul_comm → eu,add_le_add_right → eE,add_sub_cancel → eI,strongRecOn → eK,sub_self → eQ,pow_one → eS,mul_one → eT,mul_add → eU
open Int renaming toNat_natCast → ah,natCast_pow → bB,natCast_mul → bO,pow_pos → eG,natAbs_natCast → eJ,neg_mul → eX
open And renaming intro → ar
open Go.Value renaming int → ax,tuple → eN,bool → eR
open List.Sublist renaming refl → bt,cons → eW
open Bool renaming or_eq_true → bz
open Classical renaming choose → bP
open Function renaming comp_def → eC
open Option renaming map_some → eH
namespace Go.Proofs.YtjcphjpkimmmjaaGreatDoor
variable{F F':Gs}{B L N Q S T Z i k m n:Nat}{l:List (List UInt8×List UInt8)}{s:List UInt8}{w:World}{y:Zr}{a t:List UInt8×List UInt8}{bs on x:List (Rat×Rat)}{b:Int}{c:Sr×List Vn}{fr h t2 x0:Rat}{es:List (List UInt8)}{vb:List J4}{tt:List (List (Rat×Rat))}{α:Type}{xs:List (Fr×Rat)}
open Go.RowKit Ig
def Dj(n r s:Nat):Int:=Qn [if decide ((n:Int)=0)=true then 12 else 0,if decide ((n:Int)>24)=true then 5 else 0,if((r:Int) != n||(s:Int) != n)=true then 2 else 0]
theorem Qy.QDn{q:Option Addr}{l:List (List UInt8)}(h:Qy F q n 1 (l.map tx))(hl:l.length=n)(hk:k<=l.length):Qy F q k 1 ((l.take k).map tx):=by
 refine⟨wg,λh0=>?_⟩
 obtain⟨b,off,arr,T,e1,e2,e3⟩:=h.2 O
 refine⟨b,off,arr,T,e1,e2,λj u hu=>e3 j u ?_⟩
 rw[List.map_take]at hu
 have hj:j<k:=by
  rcases bT j k with g | g
  ·exact g
  ·rw[eB wg]at hu;cases hu
 rw[List.getElem?_take_of_lt hj]at hu;exact hu
theorem zw{nl:List (List UInt8)}{rl:List Pt}{sl:List (List UInt8×List UInt8)}(h:Dj nl.length rl.length sl.length≠0):TJ nl rl sl=Dj nl.length rl.length sl.length:=by
 unfold TJ
 by_cases h1:nl.length=0
 ·rw[if_pos h1];simp[Dj,h1,Qn]
 rw[if_neg h1]
 by_cases h2:nl.length>24
 ·rw[if_pos h2];simp[Dj,h1,Qn];omega
 rw[if_neg h2]
 by_cases h3:rl.length≠nl.length\/sl.length≠nl.length
 ·rw[if_pos h3]
  have e:((rl.length:Int) != nl.length||(sl.length:Int) != nl.length)=true:=by simp only[bz,bne_iff_ne];omega
  unfold Dj;rw[e];simp[h1,Qn];omega
 ·exfalso;apply h
  have e:((rl.length:Int) != nl.length||(sl.length:Int) != nl.length)=false:=by rw[Bool.eq_false_iff];simp only[ne_eq,bz,bne_iff_ne];omega
  unfold Dj;rw[e];simp[h1,Qn];omega
theorem Ur{r s:Nat}(h:Dj n r s=0):n≠0/\n<=24/\r=n/\s=n:=by
 unfold Dj at h
 by_cases h1:n=0
 ·simp[h1,Qn]at h
 by_cases h2:n>24
 ·have:((n:Int)>24):=O
  simp[h1,this,Qn]at h
 by_cases h3:r≠n\/s≠n
 ·have e:((r:Int) != n||(s:Int) != n)=true:=by simp only[bz,bne_iff_ne];omega
  have h4:¬((n:Int)>24):=O
  rw[e]at h;simp[h1,h4,Qn]at h
 ·omega
theorem OI{nl:List (List UInt8)}{rl:List Pt}{sl:List (List UInt8×List UInt8)}(h:Dj nl.length rl.length sl.length=0):TJ nl rl sl=Qn [R7 nl,Qn (rl.map λp=>Yi p nl.length),Qn (sl.map λs=>ZH s.1 s.2)]:=by
 obtain⟨h1,h2,h3,h4⟩:=Ur h
 unfold TJ;rw[if_neg h1,if_neg O,if_neg O]
theorem ZT(hF:Fits F w)(hGl:JC F)(hy:Zm F y)(ht:H6 y):Qe Tryz.prog 107 [y.v] w F (.int .i64 y.e):=by
 obtain⟨⟨qn,nn,cn⟩,nl,⟨qr,nr,cr⟩,rl,⟨qs,ns,cs⟩,sl⟩:=y
 have hnl:=hy.pV
 have hrl:=hy.Va
 have hsl:=hy.Us
 have hnn:=ht.nn
 have hrn:=ht.rn
 have hsn:=ht.sn
 dsimp only at *
 dsimp only[Zr.v]
 refine QS.intro (G:=λF=>JC F/\Zm F ⟨⟨qn,nn,cn⟩,nl,⟨qr,nr,cr⟩,rl,⟨qs,ns,cs⟩,sl⟩) Tryz.func107 rfl wc rfl rfl hF (λF' hF'=>⟨hGl.le hF',hy.le hF'⟩)<|wI<|Qo rfl (vs:=[_,_,_]) rfl (λb1=>wH rfl<|wI<|QA (QH rfl Mu Hp)<|QA (Qg rfl Hp .here .h1)<|QA (Qh rfl Wf)<|Qb N3 (λb3=>QO (vs:=[_]) rfl rfl rfl JR rfl .here .h1 wO<|wG<|QG ?_))
 refine YV [(1,_),(3,_)] [(4,.int .i64 (Dj nn nr ns))] wP ?_ ?_
 ·
  refine JO wK mixed y0<|QK (Qg I JR .here .h1)<|QK (QZ I I I)<|QN I (λw F hF h9=>B4 hF ) (λ_=>QK (Qg I JR .here .h1)<|QK (QZ I I I)<|QN I (λw F hF h9=>B4 hF ) (λ_=>QK (QH I Ae NM)<|QK (Qg I NM .u1 (.skip .h1))<|QK (Qh I EZ)<|QK (Qg I JR .here .h1)<|QK (QZ I I I)<|QK (QD I) ?_))
  refine N0 (t:=22) rfl (λhb22=>?_) (λhb22=>?_)
  ·
   refine Xr I I I<|Xr I I I<|Xr I I I<|Xr I I I<|Xr I I I<|QK (Qp I I I)<|QN I (λw F hF h9=>B4 hF ) (λ_=>?_)
   refine Qm I (Qw ZG) Yf Hz I I (λb30=>?_) (λw h=>h.imp wm (λF h=>h.1.1.1))
   refine QN I (λw F hF h9=>Eu hF (Qy.of (cs:=aT JY [_,_,_]) h9.2 I) wa) (λ_=>QK (QF I)<|Q6 ?_)
   exact J3 ⟨rfl,rfl,(congrArg (λb=>some (ax .i64 b)) (by unfold Dj;rw[hb22];rfl)),trivial⟩ wK (λ_ h=>h.1.1.1.1.1)
  ·
   refine YC I I<|QK (QH I K3 XJ)<|YC I I<|QK (Qg I XJ .u1 (.skip (.skip .h1)))<|YC I I<|QK (Qh I Xq)<|YC I I<|QK (Qg I JR .here .h1)<|YC I I<|QK (QZ I I I)<|QK (Qj I I I)<|QN I (λw F hF h9=>B4 hF ) (λ_=>?_)
   refine Qm I (Qw ZG) Yf Hz I I (λb30=>?_) (λw h=>h.imp wm (λF h=>h.1.1.1))
   refine QN I (λw F hF h9=>Eu hF (Qy.of (cs:=aT JY [_,_,_]) h9.2 I) wa) (λ_=>QK (QF I)<|Q6 ?_)
   exact J3 ⟨rfl,rfl,(congrArg (λb=>some (ax .i64 b)) (by unfold Dj;rw[hb22];rfl)),trivial⟩ wK (λ_ h=>h.1.1.1.1.1)
 ·
  simp only[ab,af]
  refine wJ I<|QA (QZ I I I)<|QE<|QC ?_
  refine QR I (λhc=>?_) (λhc=>?_)
  ·
   have h33:=bne_iff_ne.1 hc
   refine wJ I<|wH I<|QY ?_
   exact wL I I (congrArg (ax .i64) (by show TJ nl (rl.map λe=>Y8 e.2) sl=Dj nn nr ns;rw[zw (by rw[aa,hnl,hrl,hsl];exact h33),aa,hnl,hrl,hsl])) wh
  ·
   have h33:=bne_eq_false_iff_eq.1 hc
   have h0:Dj nl.length (rl.map λe=>Y8 e.2).length sl.length=0:=by rw[aa,hnl,hrl,hsl];exact h33
   obtain⟨hq1,hq2,hq3,hq4⟩:=Ur h33
   refine QQ<|QC<|QG<|wI<|QA (QH I Mu Hp)<|QA (Qg I Hp .u1 .h1)<|QA (Qh I Wf)<|wE I<|wG<|QU<|ZK (ι:=Zv (aE nl.length) (qC nl)) [(1,_),(3,_),(36,_),(37,_)] (λi=>[(38,.int .i64 ((i.i:Nat):Int))]) (λi=>nl.length - i.i) (Zv.start _ _) wR wO (λi=>?_)
   simp only[ab,af]
   have hi:=i.le
   rw[ay]at hi
   refine wI<|QA (QZ I I I)<|wG<|QG ?_
   refine QR I (λhc=>?_) (λhc=>?_)
   ·
    have hlt:i.i<nl.length:=by have:=wM hc;omega
    refine QQ<|QC<|QG<|QU<|wJ I<|QA (Q9 (n:=nn) i.i (λF h9=>h9.2.nm) rfl rfl Wf RP O)<|QA (Jd (n:=nn) ((i.i)*1) (λF h9=>h9.2.nm) O rfl RP (X8 (f:=tx) (l:=nl) O))<|wF I<|wH I<|QG<|JO wK mixed y0<|QK (QD I)<|QN I (λw F hF h9=>uV hF (ht.nt _ (Q4 hlt))) (λ_=>QK (YN I)<|QN I (λw F hF h9=>B4 hF ) (λ_=>QK (QH I Mu Hp)<|QK (Qg I Hp .u1 .h1)<|QK (QD I)<|QK (N8 i.i I I I Wf RP (by have:=ht.nc;dsimp only at this;omega))<|QK (QD I)<|QN I (λw F hF h9=>LS hF (Qy.QDn (l:=nl) h9.1.1.2.nm hnl hi) (by rw[bU];omega) O) (λ_=>?_)))
    refine QN I (λw F hF h9=>B4 hF ) (λ_=>?_)
    refine Qm I (Qw ZG) Yf Hz I I (λb54=>?_) (λw h=>h.imp wm (λF h=>h.1.1.1.1))
    refine QN I (λw F hF h9=>Eu hF (Qy.of (cs:=aT JY [_,_]) h9.2 I) wa) (λ_=>QK (QF I)<|Q6<|QC<|wJ I<|QA (QZ I I I)<|QE<|QC ?_)
    refine QR I (λhc=>?_) (λhc=>?_)
    ·
     have h57:=bne_iff_ne.1 hc
     refine wJ I<|wH I<|QY ?_
     repeat (first | refine JA ?_ | refine Q5 ?_)
     exact wL I I (congrArg (ax .i64) (by show TJ nl (rl.map λe=>Y8 e.2) sl=_;rw[OI h0];have h9:=i.hit (by rw[ay];exact hlt) (by rw[Z3 hlt];exact h57);rw[Z3 hlt]at h9;rw[show R7 nl=qC nl i.i from h9,YK (show qC nl i.i≠0 from h57)];rfl)) wh
    ·
     have h57:=bne_eq_false_iff_eq.1 hc
     refine QQ<|Qk<|QC<|QB<|QA (Qu I I O)<|wE I<|QE ?_
     exact Ql (i.next (by rw[ay];exact hlt) (by rw[Z3 hlt];exact h57)) (by show nl.length - (i.i+1)<nl.length - i.i;omega) wS wK (λF h=>h.1.1.1.1.1.1)
   ·
    have hge:nl.length<=i.i:=by have:=wN hc;omega
    refine Qz ?_
    repeat (first | refine QW ?_ | refine QP wc ?_)
    refine QX<|QC<|QG<|MK (b:=b3) .here<|JO wK mixed y0<|QK (QH I Ae NM)<|QK (Qg I NM .here (.skip .h1))<|QK (VM I)<|QN I (λw F hF h9=>LB (f:=201) (fE:=λe=>Yi (Y8 e.2) (nn:Int)) (c1:=[]) (c2:=[.pointer (some ⟨b3,0,none⟩)]) (G0:=λF=>JC F/\Lv F rl/\F b3=some (#[.int .i64 (nn:Int)],3)) hF (λF F' hle h=>⟨h.1.le hle,h.2.1.le hle,hle _ _ h.2.2⟩) ⟨h9.1.1,h9.1.2.pl,h9.2⟩ h9.1.2.rt hrl O (λe he w F hF h=>AZ hF h.1 h.2.2 (h.2.1 e he).1 (h.2.1 e he).2 (ht.tm e he) O)) (λ_=>QK (QH I K3 XJ)<|QK (Qg I XJ .here (.skip (.skip .h1)))<|QN I (λw F hF h9=>LA (f:=108) (fE:=λs=>ZH s.1 s.2) (c1:=[]) (c2:=[]) (G0:=λF=>JC F) hF (λF F' hle h=>h.le hle) h9.1.1.1 h9.1.1.2.st hsl O (λe he w F hF h=>GF hF h (ht.st e he))) (λ_=>?_))
    refine Qm I (Qw ZG) Yf Hz I I (λb67=>?_) (λw h=>h.imp wm (λF h=>h.1.1))
    refine QN I (λw F hF h9=>Eu hF (Qy.of (cs:=aT JY [_,_]) h9.2 I) wa) (λ_=>QK (QF I)<|Q6<|QC<|QY ?_)
    exact wL I I (congrArg (ax .i64) (by show TJ nl (rl.map λe=>Y8 e.2) sl=_;rw[OI h0];have h9:=i.stop (by rw[ay];exact hge);rw[show R7 nl=0 from h9,YL,bK,hnl];rfl)) wh
def SJ(a:List UInt8×List UInt8):Prop:=ZH a.1 a.2=0
def vS(a:List UInt8×List UInt8):Rat×Rat:=(Qs a.1,Qs a.2)
theorem SJ.v(h:SJ a):spT (vS a) = .agg #[tx a.1,tx a.2]:=by
 obtain⟨h1,h2,_⟩:=VO h
 show Value.agg #[tx (Je (Qs a.1)),tx (Je (Qs a.2))]=_
 rw[<-(XT h1).1,<-(XT h2).1]
theorem SJ.sz(h:SJ a):FJ 2400 (vS a):=by
 obtain⟨h1,h2,_⟩:=VO h
 exact⟨Yy h1,Yy h2⟩
theorem SJ.le(h:SJ a):(vS a).1<=(vS a).2:=by
 obtain⟨_,_,h3⟩:=VO h
 exact(Pk _ _).1 (Int.not_lt.1 h3)
theorem FJ.le{a:Rat×Rat}{k':Nat}(h:FJ k a)(hk:k<=k'):FJ k' a:=⟨ai h.1 hk,ai h.2 hk⟩
section
variable{w:World}{F:Gs}{a b:List UInt8×List UInt8}
theorem QFX{n:Int}(ha:SJ a)(hn:0<=n/\n<=12):JL (Kz (vS a) n).1<=400000/\JL (Kz (vS a) n).2<=400000:=by
 have h1:=ha.sz
 have m:∀x:Rat,JL x<=2400->JL (x^n.toNat)<=400000:=λx hx=>by
  have:=VT x n.toNat
  have:n.toNat*JL x<=12*2400:=aY O hx
  omega
 have h:=Bk (k:=400000) (r:=(vS a).1^n.toNat) (l:=[(vS a).2^n.toNat]) (m _ h1.1) λx hx=>by
  obtain rfl:=List.mem_singleton.1 hx;exact m _ h1.2
 unfold Kz
 refine⟨?_,h.2⟩
 dsimp only
 split
 ·exact ai zj wa
 ·exact h.1
def QHE(a:List UInt8×List UInt8)(n:Int):List UInt8×List UInt8:=if Qn [ZH a.1 a.2,QGD n]=0 then(Je (Kz (vS a) n).1,Je (Kz (vS a) n).2)else([],[])
end
theorem I9(i:Nat):0<Zd i:=by
 unfold Zd
 exact Rat.pow_pos wb
theorem vW(x:Rat)(i:Nat):x / Zd i*Zd i=x:=by
 rw[aD,aK,aJ _ (Pe i),aQ]
theorem IW(x:Rat)(i:Nat):x*Zd i / Zd i=x:=by
 rw[aD,aK,bQ _ (Pe i),aQ]
theorem Dz(x:Rat)(i:Nat):0<=x - Yd x i/\x - Yd x i<Zd i:=by
 have h0:=vW x i
 have hp:=I9 i
 unfold Yd
 generalize x / Zd i=t at h0 ⊢
 generalize Zd i=g at h0 hp ⊢
 have h1:=Rat.floor_le t
 have h2:=Rat.lt_floor_add_one t
 rw[Rat.intCast_add]at h2
 generalize ((t.floor:Int):Rat)=k at h1 h2 ⊢
 have:((1:Int):Rat)=1:=rfl
 rw[this]at h2
 have e2:t - k<1:=by grind
 have m1:=ae h1 (aB hp)
 have m2:=aZ e2 hp
 subst h0
 constructor<;>grind
theorem UY(y:Rat)(i:Nat):0<=-Yd (-y) i - y/\-Yd (-y) i - y<Zd i:=by
 have:=Dz (-y) i
 constructor<;>grind
theorem QBd{x y:Rat}(h:x<=y)(i:Nat):Yd x i<=-Yd (-y) i:=by
 have h1:=(Dz x i).1
 have h2:=(UY y i).1
 grind
section
variable{w:World}{F:Gs}
theorem UJ{x:Rat}{b:Int}(hx:JL x<=k)(hb:b<=64):JL (aw (x*((two b:Int):Rat)).floor (two b))<=k+140:=by
 have h1:=Z8 x ((two b:Int):Rat)
 have h2:=GV (two b)
 have h3:=zt hb
 have h4:=RZ (x*((two b:Int):Rat))
 have h5:=zk (n:=(x*((two b:Int):Rat)).floor) (b:=b) (k:=k+129) O hb
 omega
end
theorem Ei{a:Rat×Rat}(h:Xj a k)(hb:b<=64):Xj (YH a b) (k+140):=by
 refine⟨UJ h.1 hb,?_⟩
 have h2:=UJ (x:=-a.2) (b:=b) (k:=k) (by rw[V3];exact h.2) hb
 have e:(YH a b).2 = -(aw (-a.2*((two b:Int):Rat)).floor (two b)):=by
  unfold YH;dsimp only;rw[eD,<-Rat.neg_divInt]
 rw[e,V3];exact h2
theorem I3{a c:Rat×Rat}(h:Xj a k)(h':Xj c k):Xj (XF a c) k:=⟨RW h.1 h'.1,RX h.2 h'.2⟩
theorem Ii{f:Rat×Rat->Rat×Rat->Rat×Rat}{a b:List (Rat×Rat)}{P:Rat×Rat->Prop}(h:∀i,i<a.length->P (f (el a i) (el b i))):∀x∈Dw f a b,P x:=λx hx=>by
 obtain⟨i,hi,rfl⟩:=List.mem_map.1 hx
 exact h i (List.mem_range.1 hi)
theorem En(f:Rat×Rat->Rat×Rat->Rat×Rat)(a b:List (Rat×Rat)):(Dw f a b).length=a.length:=by simp[Dw]
theorem YJ(rs:List (List Tm))(fr t2:Rat)(x on:List (Rat×Rat)):(Zp rs fr t2 x on).length=x.length:=by simp[Zp]
theorem vF(b:Int)(hb:0<=b/\b<=64):JL (((two b:Int):Rat))⁻¹<=200:=by
 have h0:((two b:Int):Rat).num≠0:=Un b
 refine ai (NC h0) ?_
 rw[<-Bp]
 have h1:=VT (((2:Int):Rat)) b.toNat
 have h2:JL (((2:Int):Rat))<=2:=wa
 have h3:b.toNat*JL (((2:Int):Rat))<=64*2:=aY O h2
 omega
theorem zP{a c:Rat×Rat}(h:Xj a 2000000)(h':Xj c 2000000)(hb:0<=b/\b<=64):Xj (TH b a c) 9000000:=by
 have hz:=I3 h h'
 have z1:=hz.1
 have z2:=hz.2
 have s1:=Bs (XF a c).2 (XF a c).1
 have s2:=Z8 ((XF a c).2 - (XF a c).1) (aw 1 4)
 have s3:JL (aw 1 4)<=4:=wa
 have s4:=vF b hb
 have s5:=KU (((XF a c).2 - (XF a c).1)*aw 1 4) (((two b:Int):Rat))⁻¹
 have s6:=Bs (XF a c).1 (((XF a c).2 - (XF a c).1)*aw 1 4+(((two b:Int):Rat))⁻¹)
 have s7:=KU (XF a c).2 (((XF a c).2 - (XF a c).1)*aw 1 4+(((two b:Int):Rat))⁻¹)
 exact(Ei (k:=7000000) ⟨by show JL ((XF a c).1 - _)<=_;omega,by show JL ((XF a c).2+_)<=_;omega⟩ hb.2).mono wa
structure CP(rs:List (List Tm))(fr t2:Rat)(x:List (Rat×Rat)):Prop where
 x0:∀a∈x,Xj a 2000000
 m0:gY rs fr t2 x x
 s0:∀a∈Zp rs fr t2 x x,Xj a 2000000
 m1:∀v,v.length=x.length->(∀a∈v,Xj a 2400)->gY rs fr t2 x v
 s1:∀v,v.length=x.length->(∀a∈v,Xj a 2400)->∀a∈Zp rs fr t2 x v,Xj a 2000000
theorem Dx{v:List (Rat×Rat)}(h:¬Jz v=true):∀a∈v,Xj a 2400:=λa ha=>by
 have h1:(Jj a.1||Jj a.2)=false:=by
  cases e:(Jj a.1||Jj a.2)with
  |false=>rfl
  |true=>exact absurd (by unfold Jz;exact List.any_eq_true.2 ⟨a,ha,e⟩) h
 rw[Bool.or_eq_false_iff]at h1
 exact⟨Gy h1.1,Gy h1.2⟩
structure TrI(rs:List (List Tm))(fr t2:Rat)(x:List (Rat×Rat))(b:Int) where
 j:Nat
 c:Sr×List Y9
 vs:List (Rat×Rat)
 le:j<=12
 h:Y2 rs fr t2 x b=EM rs fr t2 x b (12 - j) vs
 len:vs.length=x.length
 sz:∀a∈vs,Xj a 10000000
def trV(o:Option (List (Rat×Rat)))(c:Sr×List Y9):Value:=.tuple #[c.1.v,.bool o.isSome]
def trF(F:Gs)(o:Option (List (Rat×Rat)))(c:Sr×List Y9):Prop:=match o with
 |none=>c.1=⟨none,0,0⟩
 |some l=>J9 F c.1 c.2 l
theorem Cf{y:xw}{x:xx}{rs:List (List Tm)}{vs vx:List (Rat×Rat)}(hF:Fits F w)(hGl:JC F)(hy:Gt F y rs vs)(hx:M5 F x fr t2 vx)(hn:y.rt.n=x.bx.n)(hnx:x.bx.n<=100000)(hn0:0<x.bx.n)(hpn:∀e∈y.ps,e.1.n<=1000000)(hb:0<=b/\b<=64)(ho:CP rs fr t2 vx):
  QS Tryz.prog 173 [.pointer (some ⟨y.b,0,none⟩),x.v,.int .i64 b] w F (trV (Y2 rs fr t2 vx b)) (λc F=>trF F (Y2 rs fr t2 vx b) c):=by
 have hxl2:=hx.bx.YZ
 have hne:((((2:Int):Rat))^b.toNat).num≠0:=by rw[Bp];exact Un b
 refine QS.intro (G:=λF=>JC F/\Gt F y rs vs/\M5 F x fr t2 vx) Tryz.func173 rfl wc rfl rfl hF (λF' hF'=>⟨hGl.le hF',hy.le hF',hx.le hF'⟩)<|wI<|Qo rfl (vs:=[_,_,_,_,_,_,_,_,_]) rfl (λb4=>Qo rfl (vs:=[_]) rfl (λb5=>wF rfl<|wH rfl<|cL<|QG<|K7 (r:=[0,1,2,3,4,5]) wy mixed y0 rfl<|Jp 1 y0 rfl rfl<|QK (Qg rfl JR .here .h1)<|JB<|K6 (A:=[4]) (r:=[0,2,3,5]) y0<|XM 0 y0 y0 wc wy wi rfl rfl rfl (λ_=>rfl) (λw F hF h9=>TO (n:=2) hF wa wa) (λc13=>XM 2 y0 y0 wc wy wj rfl rfl rfl (λ_=>rfl) (λw F hF h9=>Mr (x:=c13) (r:=(((2:Int):Rat))) (k:=b) hF h9.2 hb.1 O (by have h2:JL (((2:Int):Rat))<=2:=wa;have h3:b.toNat*JL (((2:Int):Rat))<=64*2:=aY O h2;omega)) (λc15=>XM 3 y0 y0 wc wy (λ_ h=>h.1.1) rfl rfl rfl (λ_=>rfl) (λw F hF h9=>O6 (x:=c15) (r:=(((2:Int):Rat))^b.toNat) hF h9.2 hne (by have h1:=VT (((2:Int):Rat)) b.toNat;have h2:JL (((2:Int):Rat))<=2:=wa;have h3:b.toNat*JL (((2:Int):Rat))<=64*2:=aY O h2;omega)) (λc16=>VQ 4 (d:=8) (T:=135) y0 y0 wc wy (λ_ h=>h.1.1.1) y0 y0 Ju (λb8=>Z7 (vs:=[_,_,_,_]) 5 y0 y0 wc (.cons _ wy) (λ_ h=>h.1.1.1) rfl rfl (λ_=>rfl) (λ_=>rfl) rfl QL I .here wy .h4 wR ?_))))))
 refine WO ?_ y0
 refine QC<|QG<|MK (b:=b5) .u1<|JO wK mixed y0<|QK (QH I B6 JE)<|QK (Qg I JE .u1 (.skip (.skip (.skip (.skip (.skip (.skip (.skip (.skip .h1)))))))))<|QK (QD I)<|QK (QJ (vs:=[_,_,_,_,_,_,_,_,_]) I BD .u1 .h9 rfl)<|QK (QH I B6 JE)<|QK (Qg I JE .u1 (.skip (.skip (.skip (.skip (.skip (.skip (.skip (.skip .h1)))))))))<|QN I (λw F hF h9=>Mb hF h9.1.1.1.1.2.1 h9.1.1.1.1.2.2 h9.1.1.1.1.2.2.bx hn O O hpn ho.m0) (λc23=>QK (VM I)<|QN I (λw F hF h9=>El (f:=248) (c1:=[]) (c2:=[.pointer (some ⟨b5,0,none⟩)]) (g:=λa c=>YH (XF a c) b) (G0:=(λF=>F b5=some (#[.int .i64 b],3))) hF (λF F' hle h=>hle _ _ h) h9.1.2 h9.1.1.1.1.1.2.2.bx h9.2 (by rw[<-h9.2.YZ,YJ,hxl2];exact ag _) O (λi hi x1 y1 w F hF hG hx1 hy1=>QA9 hF hx1 hy1 hG hb ((ho.x0 _ (Q4 O)).mono wa) ((ho.s0 _ (Q4 (by rw[YJ];omega))).mono wa))) (λc25=>QK (QF I)<|Q6<|QC<|QG<|MK (b:=b8) .here<|QB<|QA (VM I)<|wH I<|QG<|QB ?_))
 refine wH I<|QG<|cN<|QC<|QG<|wJ I<|wG<|QU<|JU (ι:=TrI rs fr t2 vx b) [(0,_),(4,_),(5,_),(10,_)] (λi=>[(9,.slice i.c.1.q i.c.1.n i.c.1.cap),(11,.slice none 0 0),(27,.int .i64 ((i.j:Nat):Int))]) (λi=>[(b4,.cells (dp x).toArray 183 (0,0))]) (λi F=>J9 F i.c.1 i.c.2 i.vs) (λi=>12 - i.j) (⟨0,c25,_,aH _,rfl,by rw[En],Ii λi hi=>(Ei (I3 (ho.x0 _ (Q4 hi)) (ho.s0 _ (Q4 (by rw[YJ];exact hi)))) hb.2).mono wa⟩) wR wQ wK (λ_ h=>h.1.2) (λi=>?_)
 simp only[ab,af]
 have hi:=i.le
 refine XQ _ (λw F hF h=>ar h.2.len (ar h.2.YZ h.2.val)) (λhvp=>?_)
 obtain⟨hvl,hvv,hval⟩:=hvp
 have hVm:∀e∈i.c.2,e.2∈i.vs:=λe he=>by rw[<-hval];exact aq (f:=λe:Y9=>e.2) he
 have hany:(i.c.2.any λe:Y9=>Jj e.2.1||Jj e.2.2)=Jz i.vs:=by unfold Jz;rw[<-hval,eM];simp only[eC]
 refine wI<|QA (QZ I I I)<|wG<|QG ?_
 refine QR I (λhc=>?_) (λhc=>?_)
 ·
  have hlt:i.j<12:=by have:=wM hc;omega
  refine QQ<|QC<|QG<|QU<|QG<|wJ I<|QI I (λw F hF h9=>vt (f:=209) (c1:=[]) (c2:=[]) (p:=λe:Y9=>Jj e.2.1||Jj e.2.2) (G0:=λF=>JC F/\YU F i.c.2) hF (λF F' hle h=>⟨h.1.le hle,λe he=>(h.2 e he).le hle⟩) ⟨h9.1.1.1.1.1.1.1.1.1,h9.2.sp⟩ h9.2.row h9.2.len (by rw[<-h9.2.YZ,i.len,hxl2];omega) (λe he w F hF hG=>LK hF hG.1 (hG.2 e he) ((i.sz _ (hVm _ he)).mono wa))) (λ_=>QE<|QC ?_)
  refine QR I (λhc=>?_) (λhc=>?_)
  ·
   have hlg:Jz i.vs=true:=by rw[<-hany];exact hc
   have hpic:Y2 rs fr t2 vx b=none:=by rw[i.h,show 12 - i.j=(12 - (i.j+1))+1 by omega];unfold EM;rw[if_pos hlg]
   refine Qz ?_
   repeat (first | refine QW ?_ | refine QP wc ?_)
   refine QX<|QC<|wJ I<|wE I<|QA (Rp I I JN)<|wF I<|wH I<|QY<|QCW ?_
   exact JZ ((⟨none,0,0⟩,[])) I (wC I I) (by unfold trV;rw[hpic];rfl) (λF _=>by rw[hpic];rfl)
  ·
   have hlg:¬Jz i.vs=true:=by rw[<-hany,hc];decide
   have hsm:=Dx hlg
   refine QQ<|QC<|wJ I<|QA (QJ (vs:=[_,_,_,_,_,_,_,_,_]) I BD .here .h9 rfl)<|wE I<|QI I (λw F hF h9=>Mb hF h9.1.1.1.1.1.1.1.1.1.2.1 h9.1.1.1.1.1.1.1.1.1.2.2 h9.1.2 hn (by rw[<-h9.1.2.YZ,i.len,hxl2];omega) O hpn (ho.m1 _ i.len hsm)) (λc34=>JQ _ (λw F hF h=>h.2.YZ) (λh34v=>wH I<|QG<|wJ I<|wE I<|QI I (λw F hF h9=>UO hF h9.2 h9.1.1.2 (by rw[<-h9.2.YZ,<-h9.1.1.2.YZ,YJ,i.len];exact ag _) (by rw[<-h9.2.YZ,YJ];omega) (λa ha=>(ho.s1 _ i.len hsm a ha).mono wa) (λa ha=>(i.sz a ha).mono wa)) (λ_=>QE<|QC ?_)))
   refine QR I (λhc=>?_) (λhc=>?_)
   ·
    have hpic:Y2 rs fr t2 vx b=some ((Zp rs fr t2 vx i.vs).map λa=>YH a b):=by rw[i.h,show 12 - i.j=(12 - (i.j+1))+1 by omega];unfold EM;rw[if_neg hlg,if_pos hc]
    refine wJ I<|wE I<|QA (VM I)<|QI I (λw F hF h9=>El (f:=252) (c1:=[]) (c2:=[.pointer (some ⟨b5,0,none⟩)]) (g:=λa _=>YH a b) (G0:=(λF=>F b5=some (#[.int .i64 b],3))) hF (λF F' hle h=>hle _ _ h) h9.1.1.1.1.1.1.1.2 h9.1.2 h9.1.2 (ag _) (by rw[<-h9.1.2.YZ,YJ];omega) (λi2 hi x1 y1 w F hF hG hx1 hy1=>QA7 hF hx1 hG hb ((ho.s1 _ i.len hsm _ (Q4 O)).mono wa))) (λc41=>wH I<|Qz ?_)
    repeat (first | refine QW ?_ | refine QP wc ?_)
    refine QX<|QC<|wJ rfl<|wE rfl<|QA (Rp rfl rfl JN)<|wF rfl<|wH rfl<|QY<|QCW<|QCV _ (λw F hF ⟨⟨⟨⟨⟨⟨⟨⟨⟨⟨⟨⟨⟨hGl,hY,hX⟩,h13⟩,h15⟩,h16⟩,hz5⟩,h23⟩,h25⟩,hz8⟩,hV⟩,_⟩,h34⟩,_⟩,h41⟩=>ar h41.YZ (h41.row.ptr (by rw[<-h41.YZ,En,YJ];omega))) (λhq41=>?_)
    obtain⟨_,qb,qo,hq41⟩:=hq41
    exact JZ (c41) rfl (wC I I) (by unfold trV;rw[hpic,hq41];rfl) (λF h9=>by rw[hpic];have h:=h9.2;rw[Ih]at h;exact h)
   ·
    have hstep:Y2 rs fr t2 vx b=EM rs fr t2 vx b (12 - (i.j+1)) (Dw (TH b) i.vs (Zp rs fr t2 vx i.vs)):=by
     rw[i.h,show 12 - i.j=(12 - (i.j+1))+1 by omega]
     conv=>lhs;unfold EM
     rw[if_neg hlg,if_neg (by rw[hc];decide)]
    refine QQ<|QC<|QB<|wE I<|wE I<|wE I<|QI I (λw F hF h9=>El (f:=250) (c1:=[]) (c2:=[.pointer (some ⟨b8,0,none⟩),.pointer (some ⟨b5,0,none⟩)]) (g:=TH b) (G0:=(λF=>F b8=some ((Ku c16).toArray,135)/\JM F c16 (((two b:Int):Rat))⁻¹/\F b5=some (#[.int .i64 b],3))) hF (λF F' hle h=>⟨hle _ _ h.1,h.2.1.le hle,hle _ _ h.2.2⟩) ⟨h9.1.1.1.1.2,(by rw[<-Bp];exact h9.1.1.1.1.1.1.1.1.2),h9.1.1.1.1.1.1.1.2⟩ h9.1.1.1.2 h9.1.2 (by rw[<-h9.1.2.YZ,<-h9.1.1.1.2.YZ,YJ,i.len];exact ag _) (by rw[<-h9.1.1.1.2.YZ,i.len];omega) (λi2 hi x1 y1 w F hF hG hx1 hy1=>QA8 hF hx1 hy1 hG.1 hG.2.1 hG.2.2 hb ((hsm _ (Q4 (by rw[hvv];exact hi))).mono wa) (ho.s1 _ i.len hsm _ (Q4 (by rw[YJ,<-i.len,hvv];exact hi))))) (λc45=>wF I<|QE<|Qk<|QC<|QB<|QA (Qu I I O)<|wE I<|QE ?_)
    exact Ql (⟨i.j+1,c45,Dw (TH b) i.vs (Zp rs fr t2 vx i.vs),hlt,hstep,by rw[En,i.len],Ii λk hk=>(zP ((hsm _ (Q4 hk)).mono wa) (ho.s1 _ i.len hsm _ (Q4 (by rw[YJ,<-i.len];exact hk))) hb).mono wa⟩) (by show 12 - (i.j+1)<12 - i.j;omega) wU wK (λF ⟨⟨⟨⟨⟨⟨⟨⟨⟨⟨⟨⟨⟨hGl,hY,hX⟩,h13⟩,h15⟩,h16⟩,hz5⟩,h23⟩,h25⟩,hz8⟩,hV⟩,_⟩,h34⟩,_⟩,h45⟩=>⟨⟨⟨⟨⟨⟨⟨⟨⟨hGl,hY,hX⟩,h13⟩,h15⟩,h16⟩,hz5⟩,h23⟩,h25⟩,hz8⟩,h45⟩)
 ·
  have hge:i.j=12:=by have:=wN hc;omega
  have hpic:Y2 rs fr t2 vx b=none:=by rw[i.h,hge];rfl
  refine Qz ?_
  repeat (first | refine QW ?_ | refine QP wc ?_)
  refine QX<|QC<|wJ I<|wE I<|QA (Rp I I JN)<|wF I<|wH I<|QY<|QCW ?_
  exact JZ ((⟨none,0,0⟩,[])) I (wC I I) (by unfold trV;rw[hpic];rfl) (λF _=>by rw[hpic];rfl)
theorem Qy.pre{b sz:Nat}{cs rest:List Value}{T:TypeId}(h:F b=some ((cs++rest).toArray,T))(hl:cs.length=n*sz):Qy F (some ⟨b,0,none⟩) n sz cs :=
 ⟨hl,λ_=>⟨b,0,_,T,rfl,h,λj u hu=>by
  have hj:j<cs.length:=by rcases bT j cs.length with g | g;exact g;rw[eB g]at hu;cases hu
  rw[aF,aG,List.getElem?_append_left hj];exact hu⟩⟩
theorem QAz{bk:Nat}{es:List VB}{v:List (List (Rat×Rat))}(hbk:F bk=some ((es.map (VB.sl k)).toArray,173))(hes:∀e∈es,F e.b=some ((Xh e.l++e.rest).toArray,168))(hE:∀e∈es,YU F e.l)(hl:es.length=n)(ok:∀e∈es,e.Ok k)(hq:es.map (λe=>e.l.map (·.2))=v):
  Qy F (some ⟨bk,0,none⟩) n 1 ((es.map λe=>((⟨some ⟨e.b,0,none⟩,k,e.c⟩:Sr),e.l)).map λe=>e.1.v)/\Lu F (es.map λe=>((⟨some ⟨e.b,0,none⟩,k,e.c⟩:Sr),e.l))/\(es.map λe=>((⟨some ⟨e.b,0,none⟩,k,e.c⟩:Sr),e.l)).map (λe=>e.2.map (·.2))=v/\(es.map λe=>((⟨some ⟨e.b,0,none⟩,k,e.c⟩:Sr),e.l)).length=n/\n<=n:=by
 refine⟨?_,λx hx=>?_,by rw[bK];exact hq,by rw[aa,hl],ag _⟩
 ·rw[bK];exact Qy.of hbk (by rw[aa,hl,eT])
 ·obtain⟨e,he,rfl⟩:=List.mem_map.1 hx
  exact⟨Qy.pre (hes e he) (by rw[Ga,(ok e he).hl]),hE e he,rfl,(ok e he).hl,(ok e he).hc⟩
theorem Ak{l:List Y9}{f:Nat->Rat×Rat}(h:l.map (·.2)=(aE n).map f)(hi:i<n):(el l i).2=f i:=by
 have hl:l.length=n:=by have:=congrArg bD h;simpa using this
 have h1:el (l.map (·.2)) i=f i:=by rw[h,Xk _ hi]
 rw[JK (by rw[aa];omega),aW]at h1
 rw[JK (show i<l.length by omega)];exact h1
theorem F3{m:Sl}{p1:Tmp}{assign body:Code}{r:Loop}(h:Li N m #[p1] assign body r)(v1:Value)(h1:p1<N):JP (df:=VE) N ((p1,v1)::m) (Dm r #[v1]):=by
 have e:Dm r #[v1]=(({ tmps:=r.tmps,defers:=[] }:Act).put (some p1) v1):=by
  unfold Dm;rw[h.params];simp[Act.put]
 rw[e]
 exact h.cm.put (d:=some p1) (by simpa[J5]using h1) v1
theorem RV{y:xw}{x:Sp}{rs:List (List Tm)}{vs vb:List (Rat×Rat)}{t:Rat×Rat}{rb:Sr}{lb:List Y9}{n:Nat}(hF:Fits F w)(hy:Gt F y rs vs)(hx:Jk F x t)(hb:J9 F rb lb vb)(hn:y.rt.n=rb.n)(hnb:rb.n<=1000)(hn0:0<rb.n)(hor:n<=999)(hpn:∀e∈y.ps,e.1.n<=100000)(hok:FB rs t vb n):
  QS Tryz.prog 112 [.pointer (some ⟨y.b,0,none⟩),x.v,rb.v,.int .i64 (n:Int)] w F (λ(c:Sr×List FL)=>c.1.v) (λc F=>Qy F c.1.q c.1.n 1 (c.2.map λe=>e.1.v)/\Lu F c.2/\c.2.map (λe=>e.2.map (·.2))=JX rs t vb n/\c.2.length=c.1.n/\c.1.n<=c.1.cap):=by
 have hvb:=hb.YZ
 have hlb:=hb.len
 have hrl:=hy.Va
 have hpl0:=hy.len
 dsimp only[Sr.v]
 refine QS.QB2 (G:=λF=>Gt F y rs vs/\Jk F x t/\J9 F rb lb vb) Tryz.func112 rfl wc rfl rfl hF (λF' hF'=>⟨hy.le hF',hx.le hF',hb.le hF'⟩)<|wI<|Qo rfl (vs:=[_,_,_,_,_,_,_,_]) rfl (λb5=>wH rfl<|wJ rfl<|QA (Qh rfl JN)<|NI (n:=rb.n) (bytes:=24) rfl rfl GP XK WZ rfl QCG O O (λbk=>wH rfl<|QG<|wJ rfl<|QA (Qh rfl JN)<|wE rfl<|wG<|QU<|JU (ι:=TaJ vb) [(0,_),(2,_),(3,_),(5,_),(8,_),(9,_),(23,_),(24,_)] (λi=>[(25,.int .i64 ((i.i:Nat):Int))]) (λi=>(bk,.cells (i.es.map (VB.sl 1)++Xb [.slice none 0 0] (rb.n - i.i)).toArray 173 (0,0))::(b5,.cells (Xs x).toArray 168 (0,0))::i.M) (λi F=>∀e∈i.es,YU F e.l) (λi=>rb.n - i.i) (⟨0,[],[],rfl,aH _,rfl,(λ_ h=>by cases h),rfl⟩) wV wO wK (λ_ _ _ h=>by cases h) (λi=>?_)))
 simp only[ab,af]
 have hi:=i.le
 refine wI<|QA (QZ I I I)<|wG<|QG ?_
 refine QR I (λhc=>?_) (λhc=>?_)
 ·
  have hlt:i.i<rb.n:=by have:=wM hc;omega
  refine QQ<|QC<|QG<|QU<|wJ I<|QA (Q9 (n:=rb.n) i.i (λF h9=>h9.1.2.2.row) rfl rfl JN Qi O)<|QA (Ja (n:=rb.n) (vs:=[.int .i64 (el lb i.i).1.lo.n.s,.slice (el lb i.i).1.lo.n.q (el lb i.i).1.lo.n.n (el lb i.i).1.lo.n.cap,.int .i64 (el lb i.i).1.lo.d.s,.slice (el lb i.i).1.lo.d.q (el lb i.i).1.lo.d.n (el lb i.i).1.lo.d.cap,.int .i64 (el lb i.i).1.hi.n.s,.slice (el lb i.i).1.hi.n.q (el lb i.i).1.hi.n.n (el lb i.i).1.hi.n.cap,.int .i64 (el lb i.i).1.hi.d.s,.slice (el lb i.i).1.hi.d.q (el lb i.i).1.hi.d.n (el lb i.i).1.hi.d.cap]) ((i.i)*8) (λF h9=>h9.1.2.2.row) O rfl Qi I (λj v hv=>Jm (f:=(λe=>Xs e.1)) (l:=lb) (λ_=>rfl) O hv))<|Qb Ji (λb11=>wF I<|QO (vs:=[_,_,_,_,_,_,_,_]) I I I Qi I .here .h8 wV<|wG<|QB<|wE I<|wE I<|QA (QJ (vs:=[_,_,_,_,_,_,_,_]) I Qi .here .h8 rfl)<|VW I (Qw JN) Qi Ji I I (λb33=>QA (JG (i:=i.i) rfl rfl GP XK O)<|QA (QH I Xg JE)<|QO (vs:=[.slice (some ⟨b33,0,none⟩) 1 1]) I I I JE I .u2 (yr (by rw[aa,i.len]) O) wO<|QE<|Qk<|QC ?_))
  refine QB<|QA (Qu I I O)<|wE I<|QE<|CW (List.perm_append_singleton _ _).symm ?_
  exact Ql (⟨i.i+1,i.es++[⟨b33,1,[(( el lb i.i).1,el vb i.i)],[]⟩],i.M++[_],by rw[i.hM,au];rfl,O,by rw[aC,i.len];rfl,λe he=>by
     rcases List.mem_append.1 he with he | he
     ·exact i.ok e he
     ·rw[List.mem_singleton.1 he];exact⟨rfl,rfl,ag _,by show 1<=maxLen;decide⟩,by rw[au,i.hq,XN (show i.i<vb.length by omega),au];rfl⟩) (by show rb.n - (i.i+1)<rb.n - i.i;omega) wW (.cons _ (by rw[au];exact bt _)) (λF ⟨⟨hY,hT,hB⟩,hE⟩=>⟨⟨hY,hT,hB⟩,λe he=>by
     rcases List.mem_append.1 he with he | he
     ·exact hE e he
     ·rw[List.mem_singleton.1 he];intro e2 he2;rw[List.mem_singleton.1 he2];exact hB.at hlt⟩)
 ·
  have hge:i.i=rb.n:=by have:=wN hc;omega
  refine Qz ?_
  repeat (first | refine QW ?_ | refine QP wc ?_)
  refine QX<|QC<|QG<|wJ I<|wE I<|wG<|QU<|Lm (ι:=TkJ rs t vb n) (λi2=>VF i2.Ds) [(0,_),(2,_),(5,_),(8,_),(9,_),(37,_)] (λi2=>[(38,.int .i64 ((i2.k:Nat):Int))]) (λi2=>(bk,.cells (i2.es.map (VB.sl (i2.k+1))).toArray 173 (0,0))::(b5,.cells (Xs x).toArray 168 (0,0))::(i2.M++dfB i2.Ds)) (λi2 F=>∀e∈i2.es,YU F e.l) (λi2=>n - i2.k) (⟨0,i.es,i.M,[],i.hM,aH _,by rw[i.len];omega,i.ok,by rw[i.hq,hge,<-hvb,aR];rfl⟩) I wT wO ((by show List.Sublist (_::_::(i.M++[])) _;rw[bw,show rb.n - i.i=0 by omega];simp only[Xb,bw];exact bt _)) wk (λi2=>?_)
  letI:Df:=VF i2.Ds
  simp only[ab,af]
  have hk:=i2.le
  have hlen2:=i2.len
  refine wI<|QA (QZ I I I)<|wG<|QG ?_
  refine QR I (λhc=>?_) (λhc=>?_)
  ·
   have hk2:i2.k<n:=by have:=wM hc;omega
   refine QQ<|QC<|QG<|QU<|wJ I<|wH I<|wI<|QI I (λw F hF h9=>TO (n:=0) hF wa wa) (λc41=>wE I<|XX I (List.Perm.refl _) (Sg (x:=c41) (a:=((0:Int):Rat)) (n:=i2.k) wk O) (λc43=>?_))
   obtain⟨e43,hl43,ok43,hv43,hob43⟩:=kD c43.hr O
   rw[hv43,hob43]
   rw[ey]
   refine Qb WZ (λb13=>QO (vs:=[_]) I I I XK I .here .h1 wO<|wG<|wI<|QA (QH I Xg JE)<|QA (Qg I JE .here .h1)<|QA (QJ (vs:=[_,_,_,_,_,_,_,_]) I Qi .u3 .h8 rfl)<|QA (JG (i:=0) rfl rfl JN Qi O)<|QO (vs:=Xs x) rfl rfl rfl Qi I .u1 (yt (i:=0) (by rw[ok43.hl];omega) x t) wV<|QE<|QC ?_)
   refine Lx (ι:=List Y9) [(0,_),(2,_),(5,_),(8,_),(9,_),(12,_),(13,_),(37,_),(38,_)] (λlt=>[]) (λlt=>(b13,.cells [.slice (some ⟨e43.b,0,none⟩) (i2.k+1) e43.c].toArray 173 (0,0))::(e43.b,.cells (Xh lt++e43.rest).toArray 168 (0,0))::(bk,.cells (i2.es.map (VB.sl (i2.k+1))).toArray 173 (0,0))::(b5,.cells (Xs x).toArray 168 (0,0))::(i2.M++dfB i2.Ds)) (λlt F=>YU F lt/\lt.map (·.2)=Z6 t i2.k/\lt.length=i2.k+1) wW ?_ ?_
   ·
    refine wJ I<|QA (QZ I I I)<|QE<|QC ?_
    refine QR I (λhc=>?_) (λhc=>?_)
    ·
     have hkp:0<i2.k:=by have:=wM hc;omega
     refine JO (.cons_cons _ (.cons _ wy)) mixed y0<|QK (QH I Xg JE)<|QK (Qg I JE .here .h1)<|QN I (λw F hF h9=>TO (n:=1) hF wa wa) (λc52=>QN I (λw F hF h9=>K1 (x:=c52) (r:=((1:Int):Rat)) hF h9.2) (λc53=>QK (JG (i:=1) rfl rfl JN Qi O)<|JV (vs:=Xs c53) rfl rfl rfl Qi I .u1 wz (λ_ h=>h.1.1) (yt (i:=1) (by rw[bN,ok43.hl];omega) c53 (((1:Int):Rat),((1:Int):Rat))) wV<|Q6 ?_))
     exact Zq ((e43.l.set 0 (x,t)).set 1 (c53,(((1:Int):Rat),((1:Int):Rat)))) wW wK (λF ⟨⟨⟨⟨⟨⟨⟨hY,hT,hB⟩,hE⟩,hE2⟩,h41⟩,h43⟩,h52⟩,h53⟩=>⟨⟨⟨⟨⟨⟨hY,hT,hB⟩,hE⟩,hE2⟩,h41⟩,h43⟩,⟨YU.set (YU.set (by rw[hl43];exact h43) hT) h53,by rw[ee,ee,hl43,c43.hl,Aq];exact uw t O,by rw[bN,bN,ok43.hl]⟩⟩)
    ·
     have hkp:¬0<i2.k:=by have:=wN hc;omega
     refine QQ ?_
     exact Zq (e43.l.set 0 (x,t)) wW wK (λF ⟨⟨⟨⟨⟨hY,hT,hB⟩,hE⟩,hE2⟩,h41⟩,h43⟩=>⟨⟨⟨⟨⟨⟨hY,hT,hB⟩,hE⟩,hE2⟩,h41⟩,h43⟩,⟨YU.set (by rw[hl43];exact h43) hT,by rw[ee,hl43,c43.hl,Aq,show i2.k=0 by omega];exact gC t,by rw[bN,ok43.hl]⟩⟩)
   ·intro lt
    simp only[ab,af]
    refine XQ _ (λw F hF h=>h.2.2) (λhlt2p=>?_)
    obtain⟨hltq,hlt2⟩:=hlt2p
    refine wJ I<|QA (Qh I JN)<|NI (n:=rb.n) (bytes:=128) rfl rfl JN Qi Ji I Wq O O (λbn=>wH I<|QG<|wJ I<|QA (Zj I)<|QA (QH I B5 Yb)<|QA (Z2 (c:=#[y.rt.v,y.st.v]) (T':=188) rfl Yb (λF h9=>h9.1.1.1.1.1.1.BA) rfl)<|QA (Qh I Yk)<|wE I<|wG<|QU<|Lm (ι:=TrJ (nxQ rs t vb i2.k) rb.n) (λi3=>VF i3.Ds) [(0,_),(2,_),(5,_),(8,_),(9,_),(12,_),(13,_),(14,_),(37,_),(38,_),(61,_),(62,_)] (λi3=>[(63,.int .i64 ((i3.i:Nat):Int))]) (λi3=>(bn,.cells (Xh i3.nx++Xb [.int .i64 0,.slice none 0 0,.int .i64 0,.slice none 0 0,.int .i64 0,.slice none 0 0,.int .i64 0,.slice none 0 0] (rb.n - i3.i)).toArray 168 (0,0))::(b13,.cells [.slice (some ⟨e43.b,0,none⟩) (i2.k+1) e43.c].toArray 173 (0,0))::(e43.b,.cells (Xh lt++e43.rest).toArray 168 (0,0))::(bk,.cells (i2.es.map (VB.sl (i2.k+1))).toArray 173 (0,0))::(b5,.cells (Xs x).toArray 168 (0,0))::(i2.M++dfB i3.Ds)) (λi3 F=>YU F i3.nx) (λi3=>rb.n - i3.i) (⟨0,[],i2.Ds,aH _,rfl,rfl⟩) I wZ wO wK (λ_ _=>YU.nil _) (λi3=>?_))
    letI:Df:=VF i3.Ds
    simp only[ab,af]
    have hi3l:=i3.le
    refine wI<|QA (QZ I I I)<|wG<|QG ?_
    refine QR I (λhc=>?_) (λhc=>?_)
    ·
     have hi3':i3.i<y.rt.n:=by have:=wM hc;omega
     have hi3:i3.i<rs.length:=O
     have hem:=Q4 (show i3.i<y.ps.length by omega)
     obtain⟨pp,hpp⟩:∃pp,pp=el y.ps i3.i:=⟨_,rfl⟩
     have hpp1:=hpn _ hem
     rw[<-hpp]at hpp1
     have hall:(((⟨e43.b,e43.c,lt⟩:VL)::(i2.es.map VB.vl)).map VL.q)=(Z6 t i2.k::JX rs t vb i2.k):=by rw[bH,bK];show lt.map (·.2)::i2.es.map (λe=>e.l.map (·.2))=_;rw[hltq,i2.hq]
     have hto:=hok.tm _ hk2 _ hi3
     refine XQ _ (λw F hF ⟨⟨⟨⟨⟨⟨⟨hY,hT,hB⟩,hE⟩,hE2⟩,h41⟩,h43⟩,hLT⟩,hN⟩=>ar (hY.at hi3').2 (hY.at hi3').1.2.2.2.2) (λhY2=>?_)
     rw[<-hpp]at hY2
     have hpe:J1 pp.2=el rs i3.i:=hY2.1
     have hpl2:pp.2.length=pp.1.n:=hY2.2
     rw[<-hpe]at hto
     refine QQ<|QC<|QG<|QU<|wJ I<|QA (Q9 (n:=y.rt.n) (i3.i) (λF h9=>h9.1.1.1.1.1.1.1.row) rfl rfl Yk Ya O)<|QA (Jd (n:=y.rt.n) ((i3.i)*1) (λF h9=>h9.1.1.1.1.1.1.1.row) O rfl Ya (X8 (f:=λe:Vn=>e.1.v) (l:=y.ps) O))<|wF I<|wH I<|wI<|QI I (λw F hF h9=>TO (n:=0) hF wa wa) (λc68=>wE I<|QI I (λw F hF h9=>Sf (x:=c68) (a:=((0:Int):Rat)) (n:=i2.k) hF h9.2 O) (λc70=>Qb WZ (λb17=>QO (vs:=[_]) I I I XK I .here .h1 wO<|wG<|QG<|QG<|QB ?_)))
     refine wE I<|wE I<|QA (QJ (vs:=[_]) I XK .u2 .h1 rfl)<|wE I<|QI I (λw F hF h9=>de (p:=el y.ps i3.i) (n:=i2.k) (v1:=.slice (some ⟨e43.b,0,none⟩) (i2.k+1) e43.c) (v2:=.slice (some ⟨bk,0,none⟩) rb.n rb.n) hF ⟨rfl,rfl⟩ ⟨rfl,rfl⟩) (λc75=>wG<|QU<|QCS (λG hG=>?_))
     have hlsl:(i2.es.map VB.vl).length=rb.n:=by rw[aa];omega
     have hfacts:∀F,G F->(F c75.1=some (#[pp.1.v],190)/\F c75.2.1=some (#[.int .i64 (i2.k:Int)],3)/\F c75.2.2.1=some (#[.slice (some ⟨e43.b,0,none⟩) (i2.k+1) e43.c],173)/\F c75.2.2.2=some (#[.slice (some ⟨bk,0,none⟩) (i2.es.map VB.vl).length rb.n],163))/\XU F pp.1 pp.2 (J1 pp.2)/\∀e∈(⟨e43.b,e43.c,lt⟩:VL)::i2.es.map VB.vl,YU F e.l:=λF h=>by
      obtain⟨⟨⟨⟨⟨⟨⟨⟨⟨⟨hY,hT,hB⟩,hE⟩,hE2⟩,h41⟩,h43⟩,hLT⟩,hN⟩,h68⟩,h70⟩,h75⟩:=hG F h
      rw[hpp,hlsl]
      exact⟨h75,(hY.at hi3').1,λe he=>by
       rcases List.mem_cons.1 he with rfl | he
       ·exact hLT.1
       ·obtain⟨e',he',rfl⟩:=List.mem_map.1 he
        exact hE2 e' he'⟩
     have h70f:∀F,G F->J9 F c70.1 c70.2 (Ye 0 i2.k):=λF h=>by obtain⟨⟨⟨⟨⟨⟨⟨⟨⟨⟨hY,hT,hB⟩,hE⟩,hE2⟩,h41⟩,h43⟩,hLT⟩,hN⟩,h68⟩,h70⟩,h75⟩:=hG F h;exact h70
     refine FE (Ds:=i3.Ds) (ι:=TsS pp.2.length) (λs=>(b17,.cells [.slice s.y.1.q s.y.1.n s.y.1.cap].toArray 173 (0,0))::(bn,.cells (Xh i3.nx++Xb [.int .i64 0,.slice none 0 0,.int .i64 0,.slice none 0 0,.int .i64 0,.slice none 0 0,.int .i64 0,.slice none 0 0] (rb.n - i3.i)).toArray 168 (0,0))::(b13,.cells [.slice (some ⟨e43.b,0,none⟩) (i2.k+1) e43.c].toArray 173 (0,0))::(e43.b,.cells (Xh lt++e43.rest).toArray 168 (0,0))::(bk,.cells (i2.es.map (VB.sl (i2.k+1))).toArray 173 (0,0))::(b5,.cells (Xs x).toArray 168 (0,0))::(i2.M++dfB i3.Ds)) (λs F=>J9 F s.y.1 s.y.2 (Kf ((J1 pp.2).take s.i) (Z6 t i2.k::JX rs t vb i2.k) i2.k)) (λs=>s.i=pp.2.length) rfl rfl (enters_of Tryz.func275 wc rfl) (λL D r W hrec hW=>?_) (λD s hs=>?_)
     ·have hterms:=ze (ι:=TsS pp.2.length) (w0:=w) (F0:=F) (B:=λs=>(L,.loop r)::(D,.deferred (some []))::(b17,.cells [.slice s.y.1.q s.y.1.n s.y.1.cap].toArray 173 (0,0))::(bn,.cells (Xh i3.nx++Xb [.int .i64 0,.slice none 0 0,.int .i64 0,.slice none 0 0,.int .i64 0,.slice none 0 0,.int .i64 0,.slice none 0 0] (rb.n - i3.i)).toArray 168 (0,0))::(b13,.cells [.slice (some ⟨e43.b,0,none⟩) (i2.k+1) e43.c].toArray 173 (0,0))::(e43.b,.cells (Xh lt++e43.rest).toArray 168 (0,0))::(bk,.cells (i2.es.map (VB.sl (i2.k+1))).toArray 173 (0,0))::(b5,.cells (Xs x).toArray 168 (0,0))::(i2.M++dfB i3.Ds)) (H:=λs F=>G F/\J9 F s.y.1 s.y.2 (Kf ((J1 pp.2).take s.i) (Z6 t i2.k::JX rs t vb i2.k) i2.k)) (pos:=λs=>s.i) (p:=pp) (b1:=c75.1) (b2:=c75.2.1) (b3:=c75.2.2.1) (b4:=c75.2.2.2) (L:=L) (n:=i2.k) (bv:=bk) (cv:=rb.n) (e0:=(⟨e43.b,e43.c,lt⟩:VL)) (ls:=(i2.es.map VB.vl))
       (λs F h=>hfacts F h.1) hpl2 O O (by rw[aa];omega)
       (λs e he=>by
        rcases List.mem_cons.1 he with rfl | he
        ·exact⟨⟨e43.rest,we⟩,hlt2,ok43.hc⟩
        ·obtain⟨e',he',rfl⟩:=List.mem_map.1 he
         exact⟨⟨e'.rest,by rw[i2.hM];simp only[bh,List.mem_append];exact .inr (.inr (.inr (.inr (.inr (.inr (.inr (.inr (.inl (aq (f:=VB.box) he')))))))))⟩,(i2.ok _ he').hl,(i2.ok _ he').hc⟩)
       (λs=>by rw[bK];simp only[bh];exact .inr (.inr (.inr (.inr (.inr (.inr (.inl rfl)))))))
       (by rw[hall];exact hto)
       (λG' C s i y W hi hp hst=>?_) ⟨0,c70,aH _⟩ rfl
      ·refine(hterms.2 W (hW.BY λF h=>⟨h,by rw[aV];exact(h70f F h)⟩)).mono ?_
       rintro e w' ⟨c,rfl,h⟩
       exact⟨⟨_,rfl⟩,c.1,c.2,h⟩
      ·letI:Df:=VE
       obtain rfl:s.i=i:=hp
       rw[hall]at hst
       refine L3 hst .here (by rw[hrec.params];rfl) (F3 hrec _ wa) ?_
       rw[hrec.assign,hrec.body]
       refine Ug (Rz L) (λ⟨_,_,h⟩=>h) rfl<|Qb WZ (λb18=>QO (vs:=[.slice y.1.q y.1.n y.1.cap]) I I I XK I .here .h1 wO<|QE<|cR .u1 hrec.state<|gi<|Ug (Rz L) (λ⟨_,_,h⟩=>h) rfl<|QA (QJ (vs:=[_]) I XK .u3 .h1 rfl)<|QA (QJ (vs:=[_]) I XK .here .h1 rfl) ?_)
       have hit:s.i<(J1 pp.2).length:=by rw[Yx];exact hi
       refine QI I (λw F hF h=>QBT (ra:=s.y.1) (rb:=y.1) (la:=s.y.2) (lb:=y.2) hF h.1.2.2 h.2 (by rw[<-h.1.2.2.YZ,<-h.2.YZ,Y1,Yn];omega) (by rw[<-h.1.2.2.YZ,Y1];omega) (by rw[hpe];exact hok.sm _ hk2 _ hi3 s.i) (λx hx=>hok.mn _ hk2 _ hi3 _ (by rw[<-hpe];exact aq (Q4 hi)) x (by have e:=ZS rs t vb i2.k;rw[aS,e]at hx;exact hx))) (λc79=>QO (vs:=[.slice c79.1.q c79.1.n c79.1.cap]) I I I XK I .u3 .h1 wO<|QE<|Qk ?_)
       refine cP .u1 (λw1 hw1=>⟨rfl,⟨s.i+1,c79,by show s.i+1<=_;omega⟩,rfl,?_⟩)
       rw[OW hrec]at hw1
       exact St.imp hw1 (.cons _ wK) (λF h=>⟨h.1.1.1,h.1.1.2.1,by show J9 F c79.1 c79.2 (Kf ((J1 pp.2).take (s.i+1)) _ _);rw[Rm (by rw[Yx];omega),<-zZ hi];exact h.2⟩)
     letI:Df:=VF (D::i3.Ds)
     have hsum:∀F,J9 F s.y.1 s.y.2 (Kf ((J1 pp.2).take s.i) (Z6 t i2.k::JX rs t vb i2.k) i2.k)->J9 F s.y.1 s.y.2 (Kf (el rs i3.i) (Z6 t i2.k::JX rs t vb i2.k) i2.k):=λF h=>by
      rw[bJ (by rw[Yx];omega),hpe]at h;exact h
     refine Qk<|QC<|XQ _ (λw F hF h=>ar (hsum _ h.2).YZ (hsum _ h.2).len) (λhsv=>?_)
     obtain⟨hsv,hsl2⟩:=hsv
     rw[Y1]at hsv
     have hsl:i2.k<s.y.1.n:=O
     refine Jt 13 (.cons_cons _ (.cons_cons _ (.cons _ (.cons_cons _ (.cons_cons _ (.cons_cons _ (.cons_cons _ wu))))))) mixed y0 y0 ?_
     simp only[aO,aV,aP,aX]
     refine QK (QD I)<|QK (QD I)<|QK (QH I Xg JE)<|QK (Qg I JE .u1 .h1)<|QK (QD I)<|QK (Q9 (n:=s.y.1.n) (i2.k) (λF h9=>(hsum _ h9.2).row) rfl rfl JN Qi O)<|QK (Ja (n:=s.y.1.n) (vs:=[.int .i64 (el s.y.2 (i2.k)).1.lo.n.s,.slice (el s.y.2 (i2.k)).1.lo.n.q (el s.y.2 (i2.k)).1.lo.n.n (el s.y.2 (i2.k)).1.lo.n.cap,.int .i64 (el s.y.2 (i2.k)).1.lo.d.s,.slice (el s.y.2 (i2.k)).1.lo.d.q (el s.y.2 (i2.k)).1.lo.d.n (el s.y.2 (i2.k)).1.lo.d.cap,.int .i64 (el s.y.2 (i2.k)).1.hi.n.s,.slice (el s.y.2 (i2.k)).1.hi.n.q (el s.y.2 (i2.k)).1.hi.n.n (el s.y.2 (i2.k)).1.hi.n.cap,.int .i64 (el s.y.2 (i2.k)).1.hi.d.s,.slice (el s.y.2 (i2.k)).1.hi.d.q (el s.y.2 (i2.k)).1.hi.d.n (el s.y.2 (i2.k)).1.hi.d.cap]) ((i2.k)*8) (λF h9=>(hsum _ h9.2).row) O rfl Qi I (λj v hv=>Jm (f:=(λe=>Xs e.1)) (l:=s.y.2) (λ_=>rfl) O hv))<|QK (QD I)<|QK (Qu I I O)<|QN I (λw F hF h9=>TO (n:=((i2.k+1:Nat):Int)) hF O O) (λc89=>QN I (λw F hF h9=>O6 (x:=c89) (r:=(((i2.k+1:Nat):Int):Rat)) hF h9.2 (by show((i2.k+1:Nat):Int)≠0;omega) (by have h1:=GV ((i2.k+1:Nat):Int);have h2:sz ((i2.k+1:Nat):Int)<=40:=(XL _ 40).2 O;omega)) (λc90=>QN I (λw F hF h9=>SU (x:=(el s.y.2 i2.k).1) (y:=c90) (a:=el (Kf (el rs i3.i) (Z6 t i2.k::JX rs t vb i2.k) i2.k) i2.k) (r:=(((i2.k+1:Nat):Int):Rat)⁻¹) hF ((hsum _ h9.1.1.2).at hsl) h9.2 (hok.cf _ hk2 _ hi3) (ai (NC (by show((i2.k+1:Nat):Int)≠0;omega)) (by have h1:=GV ((i2.k+1:Nat):Int);have h2:sz ((i2.k+1:Nat):Int)<=40:=(XL _ 40).2 O;omega))) (λc91=>QK (JG (i:=i3.i) rfl rfl JN Qi O)<|Ze<|QO (vs:=Xs c91) rfl rfl rfl Qi I .u2 (QBQ (z:=[.int .i64 0,.slice none 0 0,.int .i64 0,.slice none 0 0,.int .i64 0,.slice none 0 0,.int .i64 0,.slice none 0 0]) c91 (nxQ rs t vb i2.k i3.i) rfl i3.len O) wV<|QE<|Qk<|QC<|QB<|QA (Qu I I O)<|wE I<|QE<|CW (.trans (.swap _ _ _) (.cons _ (Mg [_,_,_,_,_] i2.M _ _))) ?_)))
     exact Lt (⟨i3.i+1,i3.nx++[(c91,nxQ rs t vb i2.k i3.i)],D::i3.Ds,O,by rw[aC,i3.len];rfl,by rw[au,i3.hv,aI,au];rfl⟩) I (by show rb.n - (i3.i+1)<rb.n - i3.i;omega) ⟨rfl,rfl,rfl,rfl,rfl,rfl,rfl,rfl,rfl,rfl,rfl,rfl,rfl,trivial⟩ (.cons _ wK) (λF ⟨⟨⟨⟨hG0,hS⟩,h89⟩,h90⟩,h91⟩=>by obtain⟨⟨⟨⟨⟨⟨⟨⟨⟨⟨hY,hT,hB⟩,hE⟩,hE2⟩,h41⟩,h43⟩,hLT⟩,hN⟩,h68⟩,h70⟩,h75⟩:=hG F hG0;exact⟨⟨⟨⟨⟨⟨⟨hY,hT,hB⟩,hE⟩,hE2⟩,h41⟩,h43⟩,hLT⟩,YU.snoc hN h91⟩)
    ·
     have hge3:i3.i=rb.n:=by have:=wN hc;omega
     refine Qz ?_
     repeat (first | refine QW ?_ | refine QP wc ?_)
     refine QX<|QC<|wJ I<|QA (Qh I GP)<|wE I<|wG<|QU<|JU (ι:=TeJ i2.es i2.k (nxQ rs t vb i2.k)) [(0,_),(2,_),(5,_),(8,_),(9,_),(14,_),(37,_),(38,_),(95,_)] (λi4=>[(96,.int .i64 ((i4.i:Nat):Int))]) (λi4=>(bn,.cells (Xh i3.nx++Xb [.int .i64 0,.slice none 0 0,.int .i64 0,.slice none 0 0,.int .i64 0,.slice none 0 0,.int .i64 0,.slice none 0 0] (rb.n - i3.i)).toArray 168 (0,0))::(b13,.cells [.slice (some ⟨e43.b,0,none⟩) (i2.k+1) e43.c].toArray 173 (0,0))::(e43.b,.cells (Xh lt++e43.rest).toArray 168 (0,0))::(bk,.cells (i4.e1.map (VB.sl (i2.k+2))++(i2.es.drop i4.i).map (VB.sl (i2.k+1))).toArray 173 (0,0))::(b5,.cells (Xs x).toArray 168 (0,0))::(i4.M1++(i4.M2++dfB i3.Ds))) (λi4 F=>∀e∈i4.e1,YU F e.l) (λi4=>rb.n - i4.i) (⟨0,[],[],i2.M,rfl,by rw[i2.hM];rfl,aH _,rfl,(λ_ h=>by cases h),rfl⟩) wW wO wK (λ_ _ _ h=>by cases h) (λi4=>?_)
     simp only[ab,af]
     have hi4l:=i4.le
     refine wI<|QA (QZ I I I)<|wG<|QG ?_
     refine QR I (λhc=>?_) (λhc=>?_)
     ·
      have hlt4:i4.i<rb.n:=by have:=wM hc;omega
      have hnx:=i3.len
      obtain⟨e4,he4⟩:∃e4,el i2.es i4.i=e4:=⟨_,rfl⟩
      have hm4:=Q4 (show i4.i<i2.es.length by omega)
      have ok4:e4.Ok (i2.k+1):=by rw[<-he4];exact i2.ok _ hm4
      have hd4:i2.es.drop i4.i=e4::i2.es.drop (i4.i+1):=by rw[DC (show i4.i<i2.es.length by omega),he4]
      have hnx2:(el i3.nx i4.i).2=nxQ rs t vb i2.k i4.i:=Ak i3.hv O
      have hM4:i4.M2=e4.box::(i2.es.drop (i4.i+1)).map VB.box:=by rw[i4.hM2,hd4];rfl
      refine gh (by rw[hM4])<|QQ<|QC<|QG<|QU<|wJ I<|wH I<|Jt 15 (.cons_cons _ (.cons_cons _ (.cons_cons _ (.cons_cons _ (.cons_cons _ wu))))) mixed y0 y0 ?_
      simp only[aO,aV,aP,aX]
      refine QK (QD I)<|QK (QD I)<|QK (QD I)<|QK (QD I)<|QK (JG (i:=i4.i) rfl rfl GP XK O)<|QK (QH I Xg JE)<|QK (V4 (v:=.slice (some ⟨e4.b,0,none⟩) (i2.k+1) e4.c) rfl JE .u3 (by rw[show 0+i4.i*1+0=(i4.e1.map (VB.sl (i2.k+2))).length by rw[aa,i4.len];omega,hd4,bH];simp))<|QK (QD I)<|QK (QD I)<|QK (JG (i:=i4.i) rfl rfl JN Qi O)<|QK (F8 (vs:=Xs (el i3.nx i4.i).1) rfl Qi .here rfl (λj v hv=>kG O hv)) ?_
      refine Qm I (Qw JN) Qi Ji I I (λb110=>?_) (λw h=>h.imp (.cons_cons _ (.cons_cons _ (.cons_cons _ (.cons_cons _ (.cons_cons _ wu))))) wi)
      refine Lq (Mg [_,_,_,_,_] i4.M1 _ _).symm ?_
      refine KG (ob:=[e4.box]) (n:=i2.k+1) (k:=1) (sz:=8) (news:=Xs (el i3.nx i4.i).1) rfl rfl JN Qi Ji I Wq ok4.own (Src.row (off:=0) wk (λj q hq=>by rw[aF];rw[aG];exact hq) rfl) O O (Kx _) (.cons_cons _ (.cons_cons _ (.cons_cons _ (.cons_cons _ (.cons_cons _ wu))))) wj (λv111 ob111 hr111=>?_)
      obtain⟨e5,hl5,ok5,hv5,hob5⟩:=kD (l:=e4.l++[el i3.nx i4.i]) (by rw[MX];exact hr111) O
      rw[hv5,hob5,ey]
      refine Lq (Mg [_,_,_,_,_] i4.M1 _ _)<|QK (JG (i:=i4.i) rfl rfl GP XK O)<|QK (QH I Xg JE)<|Ze ?_
      rw[hd4,bH]
      refine QO (vs:=[.slice (some ⟨e5.b,0,none⟩) (i2.k+2) e5.c]) I I I JE I .u3 (QBP (by rw[aa,i4.len])) wO<|QE<|Qk<|QC<|QB<|QA (Qu I I O)<|wE I<|QE ?_
      exact Ql (⟨i4.i+1,i4.e1++[e5],i4.M1++[e5.box],(i2.es.drop (i4.i+1)).map VB.box,by rw[i4.hM1,au];rfl,rfl,O,by rw[aC,i4.len];rfl,λe he=>by
         rcases List.mem_append.1 he with he | he
         ·exact i4.ok e he
         ·rw[List.mem_singleton.1 he];exact ok5,by rw[au,i4.hq,aI,au];simp only[bH,ef,hl5,au,he4,hnx2]⟩) (by show rb.n - (i4.i+1)<rb.n - i4.i;omega) wX ((by simp only[au,List.append_assoc,bH,ef,ab,af];exact bt _)) (λF ⟨⟨⟨⟨⟨⟨⟨⟨⟨hY,hT,hB⟩,hE⟩,hE2⟩,h41⟩,h43⟩,hLT⟩,hN⟩,hE4⟩,hs110⟩=>⟨⟨⟨⟨⟨⟨⟨⟨hY,hT,hB⟩,hE⟩,hE2⟩,h41⟩,h43⟩,hLT⟩,hN⟩,λe he=>by
         rcases List.mem_append.1 he with he | he
         ·exact hE4 e he
         ·rw[List.mem_singleton.1 he,hl5];intro e2 he2;rcases List.mem_append.1 he2 with he2 | he2
          ·exact hE2 _ hm4 e2 (by rw[he4];exact he2)
          ·rw[List.mem_singleton.1 he2];exact hN _ (Q4 O)⟩)
     ·
      have hge4:i4.i=rb.n:=by have:=wN hc;omega
      refine Qz ?_
      repeat (first | refine QW ?_ | refine QP wc ?_)
      refine QX<|Qk<|QC<|QB<|QA (Qu I I O)<|wE I<|QE ?_
      have hdn:i2.es.drop i4.i=[]:=ek O
      have hM0:i4.M2=[]:=by rw[i4.hM2,hdn];rfl
      have hq4:i4.e1.map (λe=>e.l.map (·.2))=JX rs t vb (i2.k+1):=by
       have e1:=i4.hq
       rw[hge4,<-hvb]at e1
       rw[e1]
       refine List.map_congr_left λj hj=>?_
       have hj:=List.mem_range.1 hj
       have hel:el (JX rs t vb i2.k) j=(el i2.es j).l.map (·.2):=by rw[<-i2.hq,JK (show j<(i2.es.map λe=>e.l.map (·.2)).length by rw[aa];omega),aW,<-JK (show j<i2.es.length by omega)]
       show(el i2.es j).l.map (·.2)++[nxQ rs t vb i2.k j]=el (JX rs t vb i2.k) j++[nxQ rs t vb i2.k j]
       rw[hel]
      exact Lt (⟨i2.k+1,i4.e1,i4.M1,i3.Ds,i4.hM1,hk2,by rw[i4.len];omega,i4.ok,hq4⟩) I (by show n - (i2.k+1)<n - i2.k;omega) wU (.cons _ (.cons _ (.cons _ (by rw[hdn,hM0,ef,bw,af];exact bt _)))) (λF ⟨⟨⟨⟨⟨⟨⟨⟨hY,hT,hB⟩,hE⟩,hE2⟩,h41⟩,h43⟩,hLT⟩,hN⟩,hE4⟩=>⟨⟨⟨hY,hT,hB⟩,hE⟩,hE4⟩)
  ·
   have hge2:i2.k=n:=by have:=wN hc;omega
   refine Qz ?_
   repeat (first | refine QW ?_ | refine QP wc ?_)
   refine QX<|QC<|wJ I<|wH I<|QY ?_
   rw[i2.hM]
   refine CW (aM (l₁:=_::_::i2.es.map VB.box))<|cQ i2.Ds I<|QCs (λw1 h1=>(St.freeze (pre:=[]) (St.QAc (bs:=[_,_]) i2.es h1)).imp wu wi) ?_
   exact QV ((⟨some ⟨bk,0,none⟩,rb.n,rb.n⟩,i2.es.map λe=>(⟨some ⟨e.b,0,none⟩,i2.k+1,e.c⟩,e.l))) I (wB I) (rfl) (λF h9=>QAz (n:=rb.n) h9.2 h9.1.2 h9.1.1.2 O i2.ok (by have e:=i2.hq;rw[hge2]at e;exact e))
theorem MU(l:List (Rat×Rat))(h:Rat)(i:Nat):Ww l h (i+1)=Y3 (Ww l h i) (Jc (el l i) (h^i,h^i)):=by
 unfold Ww;rw[aI,az];rfl
theorem Vu{ls:List FL}{vv:List (List (Rat×Rat))}(h:Lu F ls)(hq:ls.map (λe=>e.2.map (·.2))=vv)(hi:i<ls.length):J9 F (el ls i).1 (el ls i).2 (el vv i):=by
 have h1:=h _ (Q4 hi)
 rw[<-hq,JK (show i<(ls.map λe=>e.2.map (·.2)).length by rw[aa];exact hi),aW,<-JK hi]
 exact h1
structure gT(rs:List (List Tm))(fr t2:Rat)(x on:List (Rat×Rat))(n:Nat):Prop where
 y1:FB rs (fr,fr) x n
 y2:FB rs (fr,t2) on (n+1)
 e1:∀i,i<x.length->∀k,k<=n->Xj (el (el (JX rs (fr,fr) x n) i) k) 10000000
 e2:∀i,i<x.length->Xj (el (el (JX rs (fr,t2) on (n+1)) i) (n+1)) 10000000
 su:∀i,i<x.length->∀k,k<=n+1->Xj (Ww (el (JX rs (fr,fr) x n) i) (t2 - fr) k) 50000000
 pw:∀k,k<=n+1->JL ((t2 - fr)^k)<=10000000
 hh:JL (t2 - fr)<=1000000
 tm:JL fr<=10000000/\JL t2<=10000000
theorem NO{y:xw}{x:xx}{rs:List (List Tm)}{vs vx von:List (Rat×Rat)}{ro:Sr}{lo:List Y9}{n:Nat}(hF:Fits F w)(hy:Gt F y rs vs)(hx:M5 F x fr t2 vx)(ho:J9 F ro lo von)(hn:y.rt.n=x.bx.n)(hno:ro.n=x.bx.n)(hnx:x.bx.n<=1000)(hn0:0<x.bx.n)(hor:n<=300)(hpn:∀e∈y.ps,e.1.n<=100000)(hk:gT rs fr t2 vx von n):
  Ws Tryz.prog 125 [.pointer (some ⟨y.b,0,none⟩),x.v,ro.v,.int .i64 (n:Int)] w F (Zn rs fr t2 vx von n):=by
 have hxl2:=hx.bx.YZ
 have hol2:=ho.YZ
 have hbl2:=hx.bx.len
 refine QS.intro (G:=λF=>Gt F y rs vs/\M5 F x fr t2 vx/\J9 F ro lo von) Tryz.func125 rfl wc rfl rfl hF (λF' hF'=>⟨hy.le hF',hx.le hF',ho.le hF'⟩)<|wI<|Qo rfl (vs:=[_,_,_,_,_,_,_,_,_]) rfl (λb5=>wH rfl<|wI<|QA (QH rfl B7 QL)<|QA (QJ (vs:=[_,_,_,_]) rfl QL .here (.skip (.skip (.skip (.skip .h4)))) rfl)<|QA (QH rfl B8 QL)<|QA (QJ (vs:=[_,_,_,_]) rfl QL .here .h4 rfl)<|QI rfl (λw F hF h9=>Aa (x:=x.Tc) (y:=x.fr) (r:=t2) (s:=fr) hF h9.2.1.Tc h9.2.1.fr (ai hk.tm.2 wa) (ai hk.tm.1 wa)) (λc21=>Qb Ju (λb9=>QO (vs:=[_,_,_,_]) rfl rfl rfl QL rfl .here .h4 wR<|wG<|QG<|JO wK mixed y0<|QK (QD rfl)<|QK (QH rfl B8 QL)<|QK (QJ (vs:=[_,_,_,_]) rfl QL .u1 .h4 rfl)<|QN rfl (λw F hF h9=>K1 (x:=x.fr) (r:=fr) hF h9.1.2.1.fr) (λc25=>QK (QH rfl B6 JE) ?_))))
 refine QK (Qg rfl JE .u1 (.skip (.skip (.skip (.skip (.skip (.skip (.skip (.skip .h1)))))))))<|QK (QD rfl)<|QN rfl (λw F hF h9=>RV (y:=y) (x:=c25) (t:=(fr,fr)) (n:=n) hF h9.1.1.1 h9.2 h9.1.1.2.1.bx hn hnx hn0 O hpn hk.y1) (λc29=>Y5 _ (λw F hF h=>ar h.2.2.2.1 h.2.2.2.2.1) (λh29p=>?_))
 obtain⟨hq29,hl29⟩:=h29p
 have hn29:c29.2.length=(vx).length:=by have e:=congrArg bD hq29;rw[aa,ZS]at e;exact e
 refine QK (QF I)<|Q6<|QC<|wJ I<|QA (QH I B8 QL)<|QA (QJ (vs:=[_,_,_,_]) I QL .u1 .h4 rfl)<|QA (QH I B7 QL)<|QA (QJ (vs:=[_,_,_,_]) I QL .u1 (.skip (.skip (.skip (.skip .h4)))) I)<|QA (Qv I YG Ji (.cons (vs:=[_,_,_,_]) I I I .h4 (.cons (vs:=[_,_,_,_]) I I I (.skip (.skip (.skip (.skip .h4)))) .nil)))<|wE I<|wE I<|QA (Qu I I O) ?_
 rw[show((n:Int)+1)=((n+1:Nat):Int) by omega]
 refine QI rfl (λw F hF ⟨⟨⟨⟨hY,hX,hO⟩,h21⟩,h25⟩,h29⟩=>RV (y:=y) (x:=⟨x.fr,x.Tc⟩) (t:=(fr,t2)) (n:=n+1) hF hY ⟨hX.fr,hX.Tc⟩ hO O O O O hpn hk.y2) (λc39=>JQ _ (λw F hF h=>ar h.2.2.2.1 h.2.2.2.2.1) (λh39p=>?_))
 obtain⟨hq39,hl39⟩:=h39p
 have hn39:c39.2.length=(von).length:=by have e:=congrArg bD hq39;rw[aa,ZS]at e;exact e
 refine wH I<|wI<|wH I<|QG<|wI<|QA (QH I B6 JE)<|QA (Qg I JE .u1 (.skip (.skip (.skip (.skip (.skip (.skip (.skip (.skip .h1)))))))))<|QA (Qh I JN)<|wE I<|wG<|QU<|JU (ι:=W1 (x.bx.n) (λi=>Y3 (Ww (el (JX rs (fr,fr) vx n) i) (t2 - fr) (n+1)) (Jc (el (el (JX rs (fr,t2) von (n+1)) i) (n+1)) ((t2 - fr)^(n+1),(t2 - fr)^(n+1))))) [(3,_),(9,_),(10,_),(11,_),(42,_)] (λi=>[(12,i.v),(43,.int .i64 ((i.i:Nat):Int))]) (λi=>(b9,.cells (Ku c21).toArray 135 (0,0))::(b5,.cells (dp x).toArray 183 (0,0))::i.ob) (λi F=>YU F i.l) (λi=>(x.bx.n) - i.i) (W1.start _ _) wS wP wK (λ_ _=>YU.nil _) (λi=>?_)
 simp only[ab,af]
 have hi:=i.le
 refine wI<|QA (QZ I I I)<|wG<|QG ?_
 refine QR I (λhc=>?_) (λhc=>?_)
 ·
  have hlt:i.i<x.bx.n:=by have:=wM hc;omega
  have hix:i.i<vx.length:=O
  have hi29:i.i<c29.2.length:=O
  have hi39:i.i<c39.2.length:=O
  refine XQ _ (λw F hF ⟨⟨⟨⟨⟨⟨hY,hX,hO⟩,h21⟩,h25⟩,h29⟩,h39⟩,hS⟩=>ar (Vu h29.2.1 hq29 hi29).YZ (ar (Vu h29.2.1 hq29 hi29).len (ar (Vu h39.2.1 hq39 hi39).YZ (Vu h39.2.1 hq39 hi39).len))) (λhvv=>?_)
  obtain⟨hv29,hw29,hv39,hw39⟩:=hvv
  rw[YD _ _ _ _ O]at hv29 hv39
  refine QQ<|QC<|QG<|QU<|wJ I<|wH I<|wI<|QI I (λw F hF h9=>TO (n:=0) hF wa wa) (λc46=>QI I (λw F hF h9=>K1 (x:=c46) (r:=((0:Int):Rat)) hF h9.2) (λc47=>Qb Ji (λb14=>QO (vs:=[_,_,_,_,_,_,_,_]) I I I Qi I .here .h8 wV<|wG<|QG<|wJ I<|wE I<|QA (Q9 (n:=c29.1.n) i.i (λF h9=>h9.1.1.1.1.2.1) rfl rfl GP XK O)<|QA (QH I Xg JE) ?_)))
  refine QA (Jd (n:=c29.1.n) ((i.i)*1) (λF h9=>h9.1.1.1.1.2.1) O rfl JE (X8 (f:=λe:FL=>e.1.v) (l:=c29.2) hi29))<|QA (Qh I JN)<|wE I<|wG<|QU<|JU (ι:=VaI (n+1)) [(3,_),(9,_),(10,_),(11,_),(12,_),(13,_),(14,_),(42,_),(43,_),(52,_),(53,_)] (λi2=>[(54,.int .i64 ((i2.i:Nat):Int))]) (λi2=>(b14,.cells (Xs i2.x).toArray 168 (0,0))::(b9,.cells (Ku c21).toArray 135 (0,0))::(b5,.cells (dp x).toArray 183 (0,0))::i.ob) (λi2 F=>Jk F i2.x (Ww (el (JX rs (fr,fr) vx n) i.i) (t2 - fr) i2.i)) (λi2=>n+1 - i2.i) (⟨0,c47,aH _⟩) wY wO wK wk (λi2=>?_)
  simp only[ab,af]
  have hj:=i2.le
  refine wI<|QA (QZ I I I)<|wG<|QG ?_
  refine QR I (λhc=>?_) (λhc=>?_)
  ·
   have hlt2:i2.i<n+1:=by have:=wM hc;omega
   refine QQ<|QC<|QG<|QU<|wJ I<|QA (Q9 (n:=(el c29.2 i.i).1.n) (i2.i) (λF ⟨⟨⟨⟨⟨⟨⟨⟨⟨hY,hX,hO⟩,h21⟩,h25⟩,h29⟩,h39⟩,hS⟩,h46⟩,h47⟩,hZ⟩=>(Vu h29.2.1 hq29 hi29).row) rfl rfl JN Qi O)<|QA (Ja (n:=(el c29.2 i.i).1.n) (vs:=[.int .i64 (el (el c29.2 i.i).2 (i2.i)).1.lo.n.s,.slice (el (el c29.2 i.i).2 (i2.i)).1.lo.n.q (el (el c29.2 i.i).2 (i2.i)).1.lo.n.n (el (el c29.2 i.i).2 (i2.i)).1.lo.n.cap,.int .i64 (el (el c29.2 i.i).2 (i2.i)).1.lo.d.s,.slice (el (el c29.2 i.i).2 (i2.i)).1.lo.d.q (el (el c29.2 i.i).2 (i2.i)).1.lo.d.n (el (el c29.2 i.i).2 (i2.i)).1.lo.d.cap,.int .i64 (el (el c29.2 i.i).2 (i2.i)).1.hi.n.s,.slice (el (el c29.2 i.i).2 (i2.i)).1.hi.n.q (el (el c29.2 i.i).2 (i2.i)).1.hi.n.n (el (el c29.2 i.i).2 (i2.i)).1.hi.n.cap,.int .i64 (el (el c29.2 i.i).2 (i2.i)).1.hi.d.s,.slice (el (el c29.2 i.i).2 (i2.i)).1.hi.d.q (el (el c29.2 i.i).2 (i2.i)).1.hi.d.n (el (el c29.2 i.i).2 (i2.i)).1.hi.d.cap]) ((i2.i)*8) (λF ⟨⟨⟨⟨⟨⟨⟨⟨⟨hY,hX,hO⟩,h21⟩,h25⟩,h29⟩,h39⟩,hS⟩,h46⟩,h47⟩,hZ⟩=>(Vu h29.2.1 hq29 hi29).row) O rfl Qi I (λj v hv=>Jm (f:=(λe=>Xs e.1)) (l:=(el c29.2 i.i).2) (λ_=>rfl) O hv))<|Qb Ji (λb16=>wF I<|QO (vs:=[_,_,_,_,_,_,_,_]) I I I Qi I .here .h8 wV<|wG<|Jt 7 wK mixed y0 y0 ?_)
   simp only[aO,aV,aP,aX]
   refine QK (QJ (vs:=[_,_,_,_,_,_,_,_]) I Qi .u1 .h8 rfl)<|QK (QJ (vs:=[_,_,_,_,_,_,_,_]) I Qi .here .h8 rfl)<|QK (QJ (vs:=[_,_,_,_]) I QL .u2 .h4 rfl)<|QK (QD I)<|QN I (λw F hF h9=>Mr (x:=c21) (r:=t2 - fr) (k:=(i2.i:Int)) hF h9.1.1.1.1.1.1.1.2 O O (by rw[ah];have h3:i2.i*JL (t2 - fr)<=400*1000000:=aY O hk.hh;omega)) (λc63=>?_)
   rw[ah]
   refine QN I (λw F hF ⟨⟨⟨⟨⟨⟨⟨⟨⟨⟨hY,hX,hO⟩,h21⟩,h25⟩,h29⟩,h39⟩,hS⟩,h46⟩,h47⟩,hZ⟩,h63⟩=>SU (x:=(el (el c29.2 i.i).2 i2.i).1) (y:=c63) (a:=el (el (JX rs (fr,fr) vx n) i.i) i2.i) (r:=(t2 - fr)^i2.i) hF ((Vu h29.2.1 hq29 hi29).at (show i2.i<(el c29.2 i.i).1.n by omega)) h63 ((hk.e1 _ hix _ O).mono wa) (ai (hk.pw _ O) wa)) (λc64=>QN I (λw F hF h9=>Mw (x:=i2.x) (y:=c64) (a:=Ww (el (JX rs (fr,fr) vx n) i.i) (t2 - fr) i2.i) (b:=Jc (el (el (JX rs (fr,fr) vx n) i.i) i2.i) ((t2 - fr)^i2.i,(t2 - fr)^i2.i)) hF h9.1.1.2 h9.2 ((hk.su _ hix _ O).mono wa) ((VI (hk.e1 _ hix _ O) ⟨hk.pw _ O,hk.pw _ O⟩).mono wa)) (λc65=>Ze<|QO (vs:=[_,_,_,_,_,_,_,_]) I I I Qi I .u1 .h8 wV<|QE<|Qk<|QC<|QB<|QA (Qu I I O)<|wE I<|QE ?_))
   exact Ql (⟨i2.i+1,c65,hlt2⟩) (by show n+1 - (i2.i+1)<n+1 - i2.i;omega) wZ (.cons _ wK) (λF ⟨⟨⟨⟨⟨⟨⟨⟨⟨⟨⟨⟨hY,hX,hO⟩,h21⟩,h25⟩,h29⟩,h39⟩,hS⟩,h46⟩,h47⟩,hZ⟩,h63⟩,h64⟩,h65⟩=>⟨⟨⟨⟨⟨⟨⟨⟨⟨hY,hX,hO⟩,h21⟩,h25⟩,h29⟩,h39⟩,hS⟩,h46⟩,h47⟩,by show Jk F c65 (Ww _ _ (i2.i+1));rw[MU];exact h65⟩)
  ·
   have hge2:i2.i=n+1:=by have:=wN hc;omega
   have hz2:∀F,Jk F i2.x (Ww (el (JX rs (fr,fr) vx n) i.i) (t2 - fr) i2.i)->Jk F i2.x (Ww (el (JX rs (fr,fr) vx n) i.i) (t2 - fr) (n+1)):=λF h=>by rw[hge2]at h;exact h
   refine Qz ?_
   repeat (first | refine QW ?_ | refine QP wc ?_)
   refine QX<|QC<|JO wz mixed y0<|QK (QD I)<|QK (QJ (vs:=[_,_,_,_,_,_,_,_]) I Qi .here .h8 rfl)<|QK (QD I)<|QK (QD I)<|QK (Q9 (n:=c39.1.n) i.i (λF h9=>h9.1.1.1.1.2.1) rfl rfl GP XK O)<|QK (QH I Xg JE)<|QK (Jd (n:=c39.1.n) ((i.i)*1) (λF h9=>h9.1.1.1.1.2.1) O rfl JE (X8 (f:=λe:FL=>e.1.v) (l:=c39.2) hi39))<|QK (QD I)<|QK (Qu I I O)<|QK (Q9 (n:=(el c39.2 i.i).1.n) ((n+1)) (λF ⟨⟨⟨⟨⟨⟨⟨⟨⟨hY,hX,hO⟩,h21⟩,h25⟩,h29⟩,h39⟩,hS⟩,h46⟩,h47⟩,hZ⟩=>(Vu h39.2.1 hq39 hi39).row) rfl wA JN Qi O)<|QK (Ja (n:=(el c39.2 i.i).1.n) (vs:=[.int .i64 (el (el c39.2 i.i).2 ((n+1))).1.lo.n.s,.slice (el (el c39.2 i.i).2 ((n+1))).1.lo.n.q (el (el c39.2 i.i).2 ((n+1))).1.lo.n.n (el (el c39.2 i.i).2 ((n+1))).1.lo.n.cap,.int .i64 (el (el c39.2 i.i).2 ((n+1))).1.lo.d.s,.slice (el (el c39.2 i.i).2 ((n+1))).1.lo.d.q (el (el c39.2 i.i).2 ((n+1))).1.lo.d.n (el (el c39.2 i.i).2 ((n+1))).1.lo.d.cap,.int .i64 (el (el c39.2 i.i).2 ((n+1))).1.hi.n.s,.slice (el (el c39.2 i.i).2 ((n+1))).1.hi.n.q (el (el c39.2 i.i).2 ((n+1))).1.hi.n.n (el (el c39.2 i.i).2 ((n+1))).1.hi.n.cap,.int .i64 (el (el c39.2 i.i).2 ((n+1))).1.hi.d.s,.slice (el (el c39.2 i.i).2 ((n+1))).1.hi.d.q (el (el c39.2 i.i).2 ((n+1))).1.hi.d.n (el (el c39.2 i.i).2 ((n+1))).1.hi.d.cap]) (((n+1))*8) (λF ⟨⟨⟨⟨⟨⟨⟨⟨⟨hY,hX,hO⟩,h21⟩,h25⟩,h29⟩,h39⟩,hS⟩,h46⟩,h47⟩,hZ⟩=>(Vu h39.2.1 hq39 hi39).row) O rfl Qi I (λj v hv=>Jm (f:=(λe=>Xs e.1)) (l:=(el c39.2 i.i).2) (λ_=>rfl) O hv))<|QK (QJ (vs:=[_,_,_,_]) I QL .u1 .h4 rfl)<|QK (QD I)<|QK (Qu I I O) ?_
   rw[show((n:Int)+1)=((n+1:Nat):Int) by omega]
   refine QN I (λw F hF h9=>Mr (x:=c21) (r:=t2 - fr) (k:=((n+1:Nat):Int)) hF h9.1.1.1.1.1.1.1.2 O O (by rw[ah];have h3:(n+1)*JL (t2 - fr)<=400*1000000:=aY O hk.hh;omega)) (λc81=>?_)
   rw[ah]
   refine QN I (λw F hF ⟨⟨⟨⟨⟨⟨⟨⟨⟨⟨hY,hX,hO⟩,h21⟩,h25⟩,h29⟩,h39⟩,hS⟩,h46⟩,h47⟩,hZ⟩,h81⟩=>SU (x:=(el (el c39.2 i.i).2 (n+1)).1) (y:=c81) (a:=el (el (JX rs (fr,t2) von (n+1)) i.i) (n+1)) (r:=(t2 - fr)^(n+1)) hF ((Vu h39.2.1 hq39 hi39).at (show n+1<(el c39.2 i.i).1.n by omega)) h81 ((hk.e2 _ hix).mono wa) (ai (hk.pw _ O) wa)) (λc82=>QN I (λw F hF h9=>Mw (x:=i2.x) (y:=c82) (a:=Ww (el (JX rs (fr,fr) vx n) i.i) (t2 - fr) (n+1)) (b:=Jc (el (el (JX rs (fr,t2) von (n+1)) i.i) (n+1)) ((t2 - fr)^(n+1),(t2 - fr)^(n+1))) hF (hz2 _ h9.1.1.2) h9.2 ((hk.su _ hix _ O).mono wa) ((VI (hk.e2 _ hix) ⟨hk.pw _ O,hk.pw _ O⟩).mono wa)) (λc83=>?_))
   refine Qm I (Qw JN) Qi Ji I I (λb84=>?_) (λw h=>h.imp wz (λF h=>h.1.1.1))
   refine Y6 (aM (l₁:=[_,_,_])) ?_
   refine KG (n:=i.i) (k:=1) (sz:=8) (news:=Xs c83) rfl rfl JN Qi Ji I Wq i.hr (Src.row (off:=0) wk (λj q hq=>by rw[aF];rw[aG];exact hq) rfl) O O (Kx _) wK (λ_ h=>h.1.1.1.1) (λv85 ob85 hr85=>?_)
   refine Y6 (aM (l₂:=[_,_,_]))<|QK (QF I)<|Q6<|Qk<|QC<|QB<|QA (Qu I I O)<|wE I<|QE ?_
   exact Ql (i.next hlt c83 _ hr85 rfl) (by show x.bx.n - (i.i+1)<x.bx.n - i.i;omega) wU (.cons _ wK) (λF ⟨⟨⟨⟨⟨⟨⟨⟨⟨⟨⟨⟨⟨hY,hX,hO⟩,h21⟩,h25⟩,h29⟩,h39⟩,hS⟩,h46⟩,h47⟩,hZ⟩,h81⟩,h82⟩,h83⟩,hs84⟩=>⟨⟨⟨⟨⟨⟨hY,hX,hO⟩,h21⟩,h25⟩,h29⟩,h39⟩,hS.snoc h83⟩)
 ·
  have hge:i.i=x.bx.n:=by have:=wN hc;omega
  refine Qz ?_
  repeat (first | refine QW ?_ | refine QP wc ?_)
  refine QX<|QC<|QG<|QB ?_
  have hxl:=i.len
  obtain⟨⟨rq,rn,rc⟩,hv2,hrn,hrc,hfix⟩:=Qx.fix (w0:=w) (F0:=F) (bs1:=[_,_]) (G:=_) i.hr
  dsimp only at hrn hrc hfix
  subst hrn
  refine YM hfix ?_
  rw[hv2]
  dsimp only[Sr.v]
  refine wE I<|wH I<|QY ?_
  exact QV ((⟨rq,i.i,rc⟩,i.l)) I (wB I) (rfl) (λF h9=>by have:=i.box hge (r:=⟨rq,i.i,rc⟩) h9.2 I hrc h9.1.2;unfold Zn;rw[hxl2];exact this)
structure VG(F:Gs)(r:Sr)(l:List (List UInt8×List UInt8)):Prop where
 row:Qy F r.q r.n 2 (l.flatMap OO)
 len:l.length=r.n
theorem VG.le{r:Sr}(h:VG F r l)(k:Gs.le F F'):VG F' r l:=⟨h.row.le k,h.len⟩
structure DI(r:Sr)(l:List (List UInt8×List UInt8)):Prop where
 n:r.n<=1000000
 t:∀s∈l,s.1.length<=1000000/\s.2.length<=1000000
def KN(n:Nat)(l:List (List UInt8×List UInt8)):Int:=if l.length≠n then 2 else Qn (l.map λs=>ZH s.1 s.2)
def BR(o:Int):Int:=if(decide (o<1)||decide (o>16))=true then 3 else 0
def Vg(o:Int):Int:=if(decide (o<0)||decide (o>64))=true then 3 else 0
def Wm(a b:Rat):Int:=if decide (Ks b a<=0)=true then 11 else 0
def PC(l:Rat)(s:List UInt8):Int:=if Jw s≠0 then Jw s else Wm l (Qs s)
def KL(l:List (List UInt8))(i:Nat):Rat:=if i=0 then((0:Int):Rat)else Qs (el l (i - 1))
def Nj(l:List (List UInt8)):Int:=if l.length>1000 then 5 else Qn ((aE l.length).map λi=>PC (KL l i) (el l i))
theorem Hj{l:Rat}(h:PC l s=0):Jw s=0/\Wm l (Qs s)=0:=by
 unfold PC at h;split at h
 ·exact absurd h ‹_›
 ·rename_i h1;exact⟨Decidable.byContradiction h1,h⟩
theorem Wn(l:List (List UInt8))(i:Nat):KL l (i+1)=Qs (el l i):=by unfold KL;rw[if_neg O,eI]
structure QG3(l:List (List UInt8)) extends Zv (aE l.length) (λi=>PC (KL l i) (el l i)) where
 c:Fr
 ok:JL (KL l i)<=2400
theorem WC{o:Int}(hF:Fits F w):Qe Tryz.prog 110 [.int .i64 o] w F (.int .i64 (BR o)):=by
 refine QS.intro (G:=λF=>True) Tryz.func110 rfl wc rfl rfl hF wh<|wI<|wH rfl<|wJ rfl<|QA (QZ rfl rfl rfl)<|wE rfl ?_
 refine Q3 (t:=5) rfl (λhb5=>?_) (λhb5=>?_)
 ·
  refine Qc I I I<|Qc I I I<|QA (Qp I I I)<|QI I (λw F hF hT=>B0 hF ) (λ_=>wH I<|QY ?_)
  exact wL I I (congrArg (ax .i64) (by unfold BR;rw[hb5];rfl)) wh
 ·
  refine QM I I<|wE I<|QM I I<|QA (QZ I I I)<|QA (Qj I I I)<|QI I (λw F hF hT=>B0 hF ) (λ_=>wH I<|QY ?_)
  exact wL I I (congrArg (ax .i64) (by unfold BR;rw[hb5];rfl)) wh
theorem Bj{o:Int}(hF:Fits F w):Qe Tryz.prog 164 [.int .i64 o] w F (.int .i64 (Vg o)):=by
 refine QS.intro (G:=λF=>True) Tryz.func164 rfl wc rfl rfl hF wh<|wI<|wH rfl<|wJ rfl<|QA (QZ rfl rfl rfl)<|wE rfl ?_
 refine Q3 (t:=5) rfl (λhb5=>?_) (λhb5=>?_)
 ·
  refine Qc I I I<|Qc I I I<|QA (Qp I I I)<|QI I (λw F hF hT=>B0 hF ) (λ_=>wH I<|QY ?_)
  exact wL I I (congrArg (ax .i64) (by unfold Vg;rw[hb5];rfl)) wh
 ·
  refine QM I I<|wE I<|QM I I<|QA (QZ I I I)<|QA (Qj I I I)<|QI I (λw F hF hT=>B0 hF ) (λ_=>wH I<|QY ?_)
  exact wL I I (congrArg (ax .i64) (by unfold Vg;rw[hb5];rfl)) wh
theorem WD{a b:List UInt8}(hF:Fits F w)(hGl:JC F)(ha:Jw a=0/\a.length<=1000000)(hb:Jw b=0/\b.length<=1000000):Qe Tryz.prog 124 [tx a,tx b] w F (.int .i64 (Wm (Qs a) (Qs b))):=by
 have za:=Yy ha.1
 have zb:=Yy hb.1
 refine QS.intro (G:=λF=>JC F) Tryz.func124 rfl wc rfl rfl hF (λF' hF'=>hGl.le hF')<|wI<|wH rfl<|wJ rfl<|QI rfl (λw F hF hGl=>Kr hF hGl (XT hb.1).1 O) (λc6=>wE rfl<|QI rfl (λw F hF h9=>Kr hF h9.1 (XT ha.1).1 O) (λc8=>QI rfl (λw F hF h9=>Hb hF h9.1.2 h9.2 O O) (λ_=>QA (QZ rfl rfl rfl)<|QI rfl (λw F hF h9=>B0 hF ) (λ_=>wH rfl<|QY ?_))))
 exact wL I I (rfl) wh
theorem Ys{r:Sr}(hF:Fits F w)(hGl:JC F)(hy:Zm F y)(hb:VG F r l)(hc:DI r l):Qe Tryz.prog 109 [y.v,r.v] w F (.int .i64 (KN y.nm.n l)):=by
 have hl:=hb.len
 have hn:=hc.n
 refine QS.intro (G:=λF=>JC F/\Zm F y/\VG F r l) Tryz.func109 rfl wc rfl rfl hF (λF' hF'=>⟨hGl.le hF',hy.le hF',hb.le hF'⟩)<|wI<|Qo rfl (vs:=[_,_,_]) rfl (λb2=>wH rfl<|QG<|wJ rfl<|QA (Qh rfl Xq)<|QA (QH rfl Mu Hp)<|QA (Qg rfl Hp .here .h1)<|QA (Qh rfl Wf)<|QA (QZ rfl rfl rfl)<|QE<|QC ?_)
 refine QR I (λhc2=>?_) (λhc2=>?_)
 ·
  have h13:=bne_iff_ne.1 hc2
  refine wI<|wH I<|QY ?_
  exact wL I I (congrArg (ax .i64) (by unfold KN;rw[if_pos O])) wh
 ·
  have h13:=bne_eq_false_iff_eq.1 hc2
  refine QQ<|QC<|QG<|wJ I<|QA (Qh I Xq)<|wE I<|wG<|QU<|ZK (ι:=Zv l (λs=>ZH s.1 s.2)) [(14,_),(15,_)] (λi=>[(16,.int .i64 ((i.i:Nat):Int))]) (λi=>l.length - i.i) (Zv.start _ _) wP wO (λi=>?_)
  simp only[ab,af]
  have hi:=i.le
  refine wI<|QA (QZ I I I)<|wG<|QG ?_
  refine QR I (λhc2=>?_) (λhc2=>?_)
  ·
   have hlt:i.i<l.length:=by have:=wM hc2;omega
   have hem:=Q4 hlt
   refine QQ<|QC<|QG<|QU<|wI<|QA (Q9 (n:=r.n) i.i (λF h9=>h9.2.2.row) rfl rfl Xq XD O)<|QA (Ja (n:=r.n) (vs:=[tx (el l i.i).1,tx (el l i.i).2]) ((i.i)*2) (λF h9=>h9.2.2.row) O rfl XD I (λj v hv=>Jm (f:=OO) (l:=l) By O hv))<|Qb Xm (λb6=>QO (vs:=[_,_]) I I I XD I .here .h2 wP<|wG<|wI<|QA (QJ (vs:=[_,_]) I XD .here .h2 rfl)<|QI I (λw F hF h9=>GF hF h9.1 (hc.t _ hem)) (λ_=>wH I<|wJ I<|QA (QZ I I I)<|QE<|QC ?_))
   refine QR I (λhc2=>?_) (λhc2=>?_)
   ·
    have h23:=bne_iff_ne.1 hc2
    refine wJ I<|wH I<|QY ?_
    repeat (first | refine JA ?_ | refine Q5 ?_)
    exact wL I I (congrArg (ax .i64) (by unfold KN;rw[if_neg O];exact i.hit hlt h23)) wh
   ·
    have h23:=bne_eq_false_iff_eq.1 hc2
    refine QQ<|Qk<|QC<|QB<|QA (Qu I I O)<|wE I<|QE ?_
    exact Ql (i.next hlt h23) (by show l.length - (i.i+1)<l.length - i.i;omega) wQ ((eW _ wK)) wj
  ·
   have hge:l.length<=i.i:=by have:=wN hc2;omega
   refine Qz ?_
   repeat (first | refine QW ?_ | refine QP wc ?_)
   refine QX<|QC<|wI<|wH I<|QY ?_
   exact wL I I (congrArg (ax .i64) (by unfold KN;rw[if_neg O];exact i.stop hge)) wh
theorem NQ{a b:List UInt8}{r:Sr}(hF:Fits F w)(hGl:JC F)(ha:Jw a=0/\a.length<=1000000)(hb:Jw b=0/\b.length<=1000000)(hx:VG F r l)(hc:DI r l)(ho:∀s∈l,ZH s.1 s.2=0):QS Tryz.prog 126 [tx a,r.v,tx b] w F (λ(c:xx)=>c.v) (λc F=>M5 F c (Qs a) (Qs b) (l.map JF)):=by
 refine QS.intro (G:=λF=>JC F/\VG F r l) Tryz.func126 rfl wc rfl rfl hF (λF' hF'=>⟨hGl.le hF',hx.le hF'⟩)<|wI<|Qb Ca (λb6=>wG<|wJ rfl<|QI rfl (λw F hF h9=>Kr hF h9.1 (XT ha.1).1 O) (λc8=>wE rfl<|QI rfl (λw F hF h9=>Kr hF h9.1.1 (XT hb.1).1 O) (λc10=>wE rfl<|QI rfl (λw F hF h9=>Bb hF h9.1.1.1 h9.1.1.2.row h9.1.1.2.len hc.n (λs hs=>⟨ho s hs,hc.t s hs⟩)) (λc12=>QA (Qv rfl y7 Ca (.cons (vs:=[_,_,_,_]) rfl rfl rfl .h4 (.cons (vs:=[_,_,_,_]) rfl rfl rfl (.skip (.skip (.skip (.skip .h4)))) (.cons (vs:=[_]) rfl rfl rfl (.skip (.skip (.skip (.skip (.skip (.skip (.skip (.skip .h1)))))))) .nil))))<|QO (vs:=[_,_,_,_,_,_,_,_,_]) rfl rfl rfl BD rfl .here .h9 wW<|wG<|QY ?_))))
 exact QV ((⟨c8,c10,c12.1,c12.2⟩:xx)) I (.JW (c:=[_,_,_,_,_,_,_,_,_]) I BD .here .nil) (rfl) λF ⟨⟨⟨⟨hGl,hx⟩,h8⟩,h10⟩,h12⟩=>⟨h8,h10,h12⟩
def KA(y:Zr)(a:List UInt8)(l:List (List UInt8×List UInt8))(b:List UInt8):Int:=Qn [y.e,Jw a,KN y.nm.n l,Jw b]
theorem GD{a b:List UInt8}{r:Sr}(hF:Fits F w)(hGl:JC F)(hy:Zm F y)(ht:H6 y)(hb:VG F r l)(hc:DI r l)(ha:a.length<=1000000)(hb2:b.length<=1000000):Qe Tryz.prog 123 [y.v,tx a,r.v,tx b] w F (.int .i64 (KA y a l b)):=by
 refine QS.intro (G:=λF=>JC F/\Zm F y/\VG F r l) Tryz.func123 rfl wc rfl rfl hF (λF' hF'=>⟨hGl.le hF',hy.le hF',hb.le hF'⟩)<|wI<|Qo rfl (vs:=[_,_,_]) rfl (λb4=>wH rfl<|QG<|JO wK mixed y0<|QK (QJ (vs:=[_,_,_]) rfl XI .here .h3 rfl)<|QN rfl (λw F hF h9=>ZT (y:=y) hF h9.1 h9.2.1 ht) (λ_=>QK (QD rfl)<|QN rfl (λw F hF h9=>Dg hF h9.1.1 O) (λ_=>QK (QJ (vs:=[_,_,_]) rfl XI .here .h3 rfl)<|QK (QD rfl)<|QN rfl (λw F hF ⟨⟨⟨hGl,hy,hb⟩,_⟩,_⟩=>Ys (y:=y) hF hGl hy hb hc) (λ_=>QK (QD rfl)<|QN rfl (λw F hF h9=>Dg hF h9.1.1.1.1 O) (λ_=>?_)))))
 refine Qm I (Qw ZG) Yf Hz I I (λb18=>?_) (λw h=>h.imp wm (λF h=>h.1.1.1.1))
 refine QN I (λw F hF h9=>YR hF (Qy.of (cs:=aT JY [_,_,_,_]) h9.2 I) wa) (λ_=>QK (QF I)<|Q6<|QC<|QY ?_)
 exact wL I I (rfl) wh
theorem UZ{c:Fr}{x:Rat}(hF:Fits F w)(hGl:JC F)(hx:JM F c x)(hz:JL x<=2400)(hs:s.length<=1000000):Qe Tryz.prog 233 [c.v,tx s] w F (.int .i64 (PC x s)):=by
 refine QS.intro (G:=λF=>JC F/\JM F c x) Tryz.func233 rfl wc rfl rfl hF (λF' hF'=>⟨hGl.le hF',hx.le hF'⟩)<|wI<|Qo rfl (vs:=[_,_,_,_]) rfl (λb2=>wH rfl<|QG<|wJ rfl<|QI rfl (λw F hF h9=>Dg hF h9.1 O) (λ_=>wH rfl<|wJ rfl<|QA (QZ rfl rfl rfl)<|QE<|QC ?_))
 refine QR I (λhc2=>?_) (λhc2=>?_)
 ·
  have hc9:=bne_iff_ne.1 hc2
  refine wJ I<|wH I<|QY ?_
  exact wL I I (congrArg (ax .i64) (by unfold PC;rw[if_pos hc9])) wh
 ·
  have hc9:=bne_eq_false_iff_eq.1 hc2
  have zs:=Yy hc9
  refine QQ<|QC<|QG<|JO wK mixed y0<|QK (QD I)<|QN I (λw F hF h9=>Kr hF h9.1.1 (XT hc9).1 O) (λc12=>QK (QJ (vs:=[_,_,_,_]) I QL .here .h4 rfl)<|QN I (λw F hF h9=>Hb hF h9.2 h9.1.1.2 O O) (λ_=>QK (QZ I I I)<|QN I (λw F hF h9=>B0 hF ) (λ_=>QK (QF I)<|Q6<|QC<|QY ?_)))
  exact wL I I (congrArg (ax .i64) (by unfold PC;rw[if_neg (by simpa using hc9)];rfl)) wh
theorem LW{q:Option Addr}{c:Nat}{l:List (List UInt8)}(hF:Fits F w)(hGl:JC F)(hR:Qy F q n 1 (l.map tx))(hn:l.length=n)(hl:n>1000\/∀s∈l,s.length<=1000000):Qe Tryz.prog 163 [.slice q n c] w F (.int .i64 (Nj l)):=by
 refine QS.intro (G:=λF=>JC F/\Qy F q n 1 (l.map tx)) Tryz.func163 rfl wc rfl rfl hF (λF' hF'=>⟨hGl.le hF',hR.le hF'⟩)<|wI<|wH rfl<|QG<|wJ rfl<|QA (Qh rfl Yj)<|QA (QZ rfl rfl rfl)<|QE<|QC ?_
 refine QR I (λhc2=>?_) (λhc2=>?_)
 ·
  have h9:=wM hc2
  refine wI<|wH I<|QY ?_
  exact wL I I (congrArg (ax .i64) (by unfold Nj;rw[if_pos O])) wh
 ·
  have h9:=wN hc2
  have hl2:∀s∈l,s.length<=1000000:=hl.resolve_left O
  refine QQ<|QC<|wI<|QI I (λw F hF h9=>TO (n:=0) hF O O) (λc10=>Qb Ju (λb3=>QO (vs:=[_,_,_,_]) I I I QL I .here .h4 wR<|wG<|QG<|wJ I<|QA (Qh I Yj)<|wE I<|wG<|QU<|JU (ι:=QG3 l) [(3,_),(11,_),(12,_)] (λi=>[(13,.int .i64 ((i.i:Nat):Int))]) (λi=>[(b3,.cells (Ku i.c).toArray 135 (0,0))]) (λi F=>JM F i.c (KL l i.i)) (λi=>l.length - i.i) (⟨Zv.start _ _,c10,by show JL ((0:Int):Rat)<=2400;decide⟩) wQ wO wK wk (λi=>?_)))
  simp only[ab,af]
  have hi:=i.le
  rw[ay]at hi
  refine wI<|QA (QZ I I I)<|wG<|QG ?_
  refine QR I (λhc2=>?_) (λhc2=>?_)
  ·
   have hlt:i.i<l.length:=by have:=wM hc2;omega
   have hem:=Q4 hlt
   refine QQ<|QC<|QG<|QU<|wI<|QA (Q9 (n:=n) i.i (λF h9=>h9.1.1.2) rfl rfl Yj XA O)<|QA (Jd (n:=n) ((i.i)*1) (λF h9=>h9.1.1.2) O rfl XA (X8 (f:=tx) (l:=l) O))<|wH I<|QG<|wI<|QA (QJ (vs:=[_,_,_,_]) I QL .here .h4 rfl)<|wE I<|QI I (λw F hF h9=>UZ hF h9.1.1.1 h9.2 i.ok (hl2 _ hem)) (λ_=>wH I<|wJ I<|QA (QZ I I I)<|QE ?_)
   refine QC ?_
   refine QR I (λhc2=>?_) (λhc2=>?_)
   ·
    have h21:=bne_iff_ne.1 hc2
    refine wJ I<|wH I<|QY ?_
    repeat (first | refine JA ?_ | refine Q5 ?_)
    exact wL I I (congrArg (ax .i64) (by unfold Nj;rw[if_neg O];have h9:=i.toZv.hit (by rw[ay];exact hlt) (by rw[Z3 hlt];exact h21);rw[Z3 hlt]at h9;exact h9)) wh
   ·
    have h21:=bne_eq_false_iff_eq.1 hc2
    refine QQ<|QC<|QB<|wE I<|QI I (λw F hF h9=>Kr hF h9.1.1.1.1 (XT (Hj h21).1).1 (by have:=hl2 _ hem;omega)) (λc24=>QO (vs:=[_,_,_,_]) I I I QL I .here .h4 wR<|QE<|Qk<|QC<|QB<|QA (Qu I I O)<|wE I<|QE ?_)
    exact Ql (⟨i.toZv.next (by rw[ay];exact hlt) (by rw[Z3 hlt];exact h21),c24,by show JL (KL l (i.i+1))<=2400;rw[Wn];exact Yy (Hj h21).1⟩) (by show l.length - (i.i+1)<l.length - i.i;omega) wR wK (λF h9=>⟨⟨⟨h9.1.1.1.1.1,h9.1.1.1.1.2⟩,h9.1.1.1.2⟩,by show JM F c24 (KL l (i.i+1));rw[Wn];exact h9.2⟩)
  ·
   have hge:l.length<=i.i:=by have:=wN hc2;omega
   refine Qz ?_
   repeat (first | refine QW ?_ | refine QP wc ?_)
   refine QX<|QC<|wI<|wH I<|QY ?_
   exact wL I I (congrArg (ax .i64) (by unfold Nj;rw[if_neg O];exact i.toZv.stop (by rw[ay];exact hge))) wh
def Zr.rs(y:Zr):List (List Tm):=y.rl.map λe=>Xz (Y8 e.2)
def Zr.vs(y:Zr):List (Rat×Rat):=y.sl.map JF
structure cT(y:Zr):Prop where
 n0:1<=y.nm.n
 n1:y.nm.n<=24
 rn:y.rt.n=y.nm.n
 sn:y.st.n=y.nm.n
 nm:R7 y.nl=0
 pl:∀e∈y.rl,Vz (Y8 e.2) (y.nm.n:Int)
 st:∀s∈y.sl,ZH s.1 s.2=0
theorem Q7{l:List Int}(h:Qn l=0):∀x∈l,x=0:=by
 induction l with
 |nil=>intro x hx;cases hx
 |cons a l ih =>
  intro x hx
  unfold Qn at h
  by_cases g:a=0
  ·rw[if_pos g]at h
   rcases List.mem_cons.1 hx with rfl | hx
   ·exact g
   ·exact ih h x hx
  ·rw[if_neg g]at h;exact absurd h g
theorem Ew{a c:Int}(h:Qn [a,b,c]=0):a=0/\b=0/\c=0:=⟨Q7 h a (.head _),Q7 h b (.tail _ (.head _)),Q7 h c (.tail _ (.tail _ (.head _)))⟩
theorem Zm.ok(h:Zm F y)(he:y.e=0):cT y:=by
 have h1:=h.pV
 have h2:=h.Va
 have h3:=h.Us
 unfold Zr.e at he
 by_cases h0:Dj y.nl.length (y.rl.map λe=>Y8 e.2).length y.sl.length=0
 ·rw[OI h0]at he
  obtain⟨q1,q2,q3,q4⟩:=Ur h0
  rw[aa]at q3
  obtain⟨z1,z2,z3⟩:=Ew he
  refine⟨O,O,O,O,z1,λe hm=>?_,λs hm=>?_⟩
  ·have h5:=Q7 z2 _ (aq (aq hm))
   rw[h1]at h5
   exact BH h5
  ·exact Q7 z3 _ (aq hm)
 ·rw[zw h0]at he;exact absurd he h0
structure RdJ(y:Zr) where
 i:Nat
 v:Value
 ob:List (Nat×Obj)
 ps:List Vn
 le:i<=y.rl.length
 hr:Qx 190 1 v i (ps.map λe=>e.1.v) ob
 hq:Cb ps=y.rs.take i
theorem RdJ.len(s:RdJ y):s.ps.length=s.i:=by
 have h:=congrArg bD s.hq
 have h2:=s.le
 unfold Cb Zr.rs at h
 rw[aa,bU,aa]at h;omega
theorem Cv(h:i<y.rl.length):y.rs.take (i+1)=y.rs.take i++[Xz (Y8 (el y.rl i).2)]:=by
 unfold Zr.rs;rw[XN (by rw[aa];exact h)];congr 2
 rw[JK (by rw[aa];exact h),aW,JK h]
theorem PL.snoc{ps:List Vn}{c:Vn}{p:List Tm}(h:PL F ps)(k:XU F c.1 c.2 p):PL F (ps++[c]):=λe he=>by
 rcases List.mem_append.1 he with he | he
 ·exact h e he
 ·rw[List.mem_singleton.1 he,show J1 c.2=p from k.2.2.1];exact k
theorem Zi(hF:Fits F w)(hGl:JC F)(hy:Zm F y)(ht:H6 y)(ho:cT y):QS Tryz.prog 111 [y.v] w F (λ(c:xw)=>.pointer (some ⟨c.b,0,none⟩)) (λc F=>Gt F c y.rs y.vs):=by
 have hrl:=hy.Va
 have hsl:=hy.Us
 have hn1:=ho.n1
 have hrn:=ho.rn
 have hsn:=ho.sn
 refine QS.intro (G:=λF=>JC F/\Zm F y) Tryz.func111 rfl wc rfl rfl hF (λF' hF'=>⟨hGl.le hF',hy.le hF'⟩)<|wI<|Qo rfl (vs:=[_,_,_]) rfl (λb1=>wH rfl<|wI<|QA (QH rfl K3 XJ)<|QA (Qg rfl XJ .here (.skip (.skip .h1)))<|QI rfl (λw F hF h9=>Bb hF h9.1 h9.2.st hsl O (λs hs=>⟨ho.st s hs,ht.st s hs⟩)) (λc8=>QA (Qv rfl QBV QDc (.cons (vs:=[_]) rfl rfl rfl (.skip .h1) .nil))<|Qo rfl (vs:=[_,_]) rfl (λb10=>wH rfl<|QG<|wI<|QA (QH rfl Ae NM)<|QA (Qg rfl NM .u1 (.skip .h1))<|QA (Qh rfl EZ)<|wE rfl<|QE ?_)))
 refine QC<|QU<|JU (ι:=RdJ y) [(3,_),(12,_),(13,_)] (λi=>[(14,.int .i64 ((i.i:Nat):Int))]) (λi=>(b10,.cells #[i.v,.slice c8.1.q c8.1.n c8.1.cap] 188 (0,0))::i.ob) (λi F=>PL F i.ps) (λi=>y.rl.length - i.i) (⟨0,.slice none 0 0,[],[],aH _,.nil,rfl⟩) wQ wO (wv) (λ_ _ _ h=>by cases h) (λi=>?_)
 simp only[ab,af]
 have hi:=i.le
 refine wI<|QA (QZ I I I)<|wG<|QG ?_
 refine QR I (λhc=>?_) (λhc=>?_)
 ·
  have hlt:i.i<y.rl.length:=by have:=wM hc;omega
  have hem:=Q4 hlt
  refine QQ<|QC<|QG<|QU<|wI<|QA (Q9 (n:=y.rt.n) i.i (λF h9=>h9.1.1.2.rt) rfl rfl EZ NL O)<|QA (Jd (n:=y.rt.n) ((i.i)*1) (λF h9=>h9.1.1.2.rt) O rfl NL (X8 (f:=λe:S1=>e.1.v) (l:=y.rl) O))<|wH I<|Jt 11 wv mixed y0 y0 ?_
  simp only[aO,aV,aP,aX]
  refine QK (QD I)<|QK (QD I)<|QK (Zj I)<|QK (QH I B5 Yb)<|QK (Qg I Yb .here .h1)<|QK (QD I)<|QN I (λw F hF h9=>PU hF h9.1.1.1 (h9.1.1.2.pl _ hem).1 (h9.1.1.2.pl _ hem).2 (ht.tm _ hem) (ho.pl _ hem) O) (λc24=>Y5 _ (λw F hF h=>h.2.2.2.1) (λe24=>?_))
  refine Qm I (Qw Yk) Ya FM I I (λb25=>?_) (λw h=>h.imp wv wj)
  refine Y6 (aM (l₁:=[_])) ?_
  refine KG (n:=i.i) (k:=1) (sz:=1) (news:=[c24.1.v]) I I Yk Ya FM I gH i.hr (Src.row (off:=0) wk (λj q hq=>by rw[aF];rw[aG];exact hq) rfl) O O (λv hv=>by rw[List.mem_singleton.1 hv];rfl) wK (λ_ h=>h.1.1) (λv26 ob26 hr26=>?_)
  refine Y6 (aM (l₂:=[_]))<|QK (Zj I)<|QK (QH I B5 Yb)<|Ze<|QO (vs:=[v26]) I I hr26.one.2 Yb I .here .h1 ⟨hr26.one.1,trivial⟩<|QE<|Qk<|QC<|QB<|QA (Qu I I O)<|wE I<|QE ?_
  exact Ql (⟨i.i+1,v26,ob26,i.ps++[c24],hlt,by rw[au];exact hr26,by unfold Cb;rw[au,Cv hlt,<-e24];exact congrArg (·++_) i.hq⟩) (by show y.rl.length - (i.i+1)<y.rl.length - i.i;omega) wR wK (λF ⟨⟨⟨⟨⟨hGl,hy⟩,h8⟩,hS⟩,h24⟩,hs25⟩=>⟨⟨⟨hGl,hy⟩,h8⟩,hS.snoc h24⟩)
 ·
  have hge:i.i=y.rl.length:=by have:=wN hc;have:=i.le;omega
  refine Qz ?_
  repeat (first | refine QW ?_ | refine QP wc ?_)
  refine QX<|QC<|QG<|QB ?_
  have hxl:=i.len
  obtain⟨⟨rq,rn,rc⟩,hv2,hrn,hrc,hfix⟩:=Qx.fix (w0:=w) (F0:=F) (bs1:=[_]) (G:=_) i.hr
  dsimp only at hrn hrc hfix
  subst hrn
  refine YM hfix ?_
  rw[hv2]
  dsimp only[Sr.v]
  refine VR (b:=b10) .here<|wE I<|wH I<|QY ?_
  exact QV ((⟨b10,⟨rq,i.i,rc⟩,i.ps,c8.1,c8.2⟩:xw)) I (wB I) (rfl) (λF h9=>⟨h9.2,h9.1.2,h9.1.1.2,by have e:=i.hq;rw[hge]at e;rw[e];exact bJ (by unfold Zr.rs;rw[aa];exact ag _),hxl,h9.1.1.1.2⟩)
structure Sw(F:Gs)(c:Sr×List Vn)(rs:List (List Tm)):Prop where
 row:Qy F c.1.q c.1.n 1 (c.2.map λe=>e.1.v)
 pls:PL F c.2
 val:Cb c.2=rs
 len:c.2.length=c.1.n
theorem Sw.le{rs:List (List Tm)}(h:Sw F c rs)(k:Gs.le F F'):Sw F' c rs:=⟨h.row.le k,λe he=>(h.pls e he).le k,h.val,h.len⟩
theorem Sw.Va{rs:List (List Tm)}(h:Sw F c rs):rs.length=c.1.n:=by rw[<-h.val,<-h.len];simp[Cb]
theorem Sw.at{rs:List (List Tm)}(h:Sw F c rs){i:Nat}(hi:i<c.1.n):XU F (el c.2 i).1 (el c.2 i).2 (J1 (el c.2 i).2)/\J1 (el c.2 i).2=el rs i:=by
 have h1:=h.len
 refine⟨h.pls _ (Q4 O),?_⟩
 rw[<-h.val,JK (show i<c.2.length by omega),JK (by simp[Cb];omega)];simp[Cb]
def QED(y:Zr)(c:Sr×List Vn):List Value:=[.slice y.nm.q y.nm.n y.nm.cap,.slice y.rt.q y.rt.n y.rt.cap,.slice y.st.q y.st.n y.st.cap,.int .i64 ((y.nm.n:Int)+1),c.1.v]
theorem uU(hF:Fits F w)(hGl:JC F)(hy:Zm F y)(ht:H6 y)(he:y.e=0):QS Tryz.prog 295 [y.v] w F (λ(c:Sr×List Vn)=>.tuple #[.agg (QED y c).toArray,.int .i64 0]) (λc F=>Sw F c y.rs):=by
 have ho:=hy.ok he
 have hrl:=hy.Va
 have hsl:=hy.Us
 have hn1:=ho.n1
 have hrn:=ho.rn
 have hsn:=ho.sn
 refine QS.intro (G:=λF=>JC F/\Zm F y) Tryz.func295 rfl wc rfl rfl hF (λF' hF'=>⟨hGl.le hF',hy.le hF'⟩)<|wI<|Qo rfl (vs:=[_,_,_]) rfl (λb1=>Qb TU (λb2=>wH rfl<|QG<|wI<|QA (QJ (vs:=[_,_,_]) rfl XI .u1 .h3 rfl)<|QI rfl (λw F hF h9=>ZT (y:=y) hF h9.1 h9.2 ht) (λ_=>?_)))
 rw[he]
 refine wH I<|wJ I<|QA (QZ I I I)<|QE<|QC ?_
 refine QR I (λhc=>?_) (λhc=>?_)
 ·exact absurd hc (we)
 ·
  refine QQ<|QC<|wI<|QA (QJ (vs:=[_,_,_]) rfl XI .u1 .h3 rfl)<|QA (QH rfl Mu Hp)<|QA (Qg rfl Hp .u1 .h1)<|QA (Qh rfl Wf)<|QA (Qu rfl rfl O)<|QA (Qv rfl QBU TU (.cons (vs:=[_,_,_]) rfl rfl rfl .h3 (.cons (vs:=[_]) rfl rfl rfl (.skip (.skip (.skip .h1))) (.cons (vs:=[_]) rfl rfl rfl (.skip (.skip (.skip (.skip .h1)))) .nil))))<|Qb TU (λb5=>QO (vs:=[_,_,_,_,_]) rfl rfl rfl Gw rfl .here .h5 wS<|wG<|QG<|wI<|QA (QH rfl Ae NM)<|QA (Qg rfl NM .u2 (.skip .h1))<|QA (Qh rfl EZ)<|wE rfl<|wG<|QU<|JU (ι:=RdJ y) [(2,_),(5,_),(21,_),(22,_)] (λi=>[(23,.int .i64 ((i.i:Nat):Int))]) (λi=>(b5,.cells #[.slice y.nm.q y.nm.n y.nm.cap,.slice y.rt.q y.rt.n y.rt.cap,.slice y.st.q y.st.n y.st.cap,.int .i64 ((y.nm.n:Int)+1),i.v] 276 (0,0))::(b2,.cells [.slice none 0 0,.slice none 0 0,.slice none 0 0,.int .i64 0,.slice none 0 0].toArray 276 (0,0))::i.ob) (λi F=>PL F i.ps) (λi=>y.rl.length - i.i) (⟨0,.slice none 0 0,[],[],aH _,.nil,rfl⟩) wR wO (wy) (λ_ _ _ h=>by cases h) (λi=>?_))
  simp only[ab,af]
  have hi:=i.le
  refine wI<|QA (QZ I I I)<|wG<|QG ?_
  refine QR I (λhc=>?_) (λhc=>?_)
  ·
   have hlt:i.i<y.rl.length:=by have:=wM hc;omega
   have hem:=Q4 hlt
   refine QQ<|QC<|QG<|QU<|wI<|QA (Q9 (n:=y.rt.n) i.i (λF h9=>h9.1.1.2.rt) rfl rfl EZ NL O)<|QA (Jd (n:=y.rt.n) ((i.i)*1) (λF h9=>h9.1.1.2.rt) O rfl NL (X8 (f:=λe:S1=>e.1.v) (l:=y.rl) O))<|wH I<|Jt 7 wy mixed y0 y0 ?_
   simp only[aO,aV,aP,aX]
   refine QK (QH I Ag Yb)<|QK (Qg I Yb .here (.skip (.skip (.skip (.skip .h1)))))<|QK (QD I)<|QN I (λw F hF h9=>PU hF h9.1.1.1 (h9.1.1.2.pl _ hem).1 (h9.1.1.2.pl _ hem).2 (ht.tm _ hem) (ho.pl _ hem) O) (λc30=>Y5 _ (λw F hF h=>h.2.2.2.1) (λe30=>?_))
   refine Qm I (Qw Yk) Ya FM I I (λb31=>?_) (λw h=>h.imp wy wj)
   refine Y6 (aM (l₁:=[_,_])) ?_
   refine KG (n:=i.i) (k:=1) (sz:=1) (news:=[c30.1.v]) I I Yk Ya FM I gH i.hr (Src.row (off:=0) wk (λj q hq=>by rw[aF];rw[aG];exact hq) rfl) O O (λv hv=>by rw[List.mem_singleton.1 hv];rfl) wK (λ_ h=>h.1.1) (λv32 ob32 hr32=>?_)
   refine Y6 (aM (l₂:=[_,_]))<|QK (QH I Ag Yb)<|Ze<|QO (vs:=[v32]) I I hr32.one.2 Yb I .here (.skip (.skip (.skip (.skip .h1)))) ⟨hr32.one.1,trivial⟩<|QE<|Qk<|QC<|QB<|QA (Qu I I O)<|wE I<|QE ?_
   exact Ql (⟨i.i+1,v32,ob32,i.ps++[c30],hlt,by rw[au];exact hr32,by unfold Cb;rw[au,Cv hlt,<-e30];exact congrArg (·++_) i.hq⟩) (by show y.rl.length - (i.i+1)<y.rl.length - i.i;omega) wS wK (λF h9=>⟨⟨⟨h9.1.1.1.1.1,h9.1.1.1.1.2⟩,trivial⟩,h9.1.1.2.snoc h9.1.2⟩)
  ·
   have hge:i.i=y.rl.length:=by have:=wN hc;have:=i.le;omega
   refine Qz ?_
   repeat (first | refine QW ?_ | refine QP wc ?_)
   refine QX<|QC<|QG<|QB ?_
   have hxl:=i.len
   obtain⟨⟨rq,rn,rc⟩,hv2,hrn,hrc,hfix⟩:=Qx.fix (w0:=w) (F0:=F) (bs1:=[_,_]) (G:=_) i.hr
   dsimp only at hrn hrc hfix
   subst hrn
   refine YM hfix ?_
   rw[hv2]
   dsimp only[Sr.v]
   refine QA (QJ (vs:=[_,_,_,_,_]) I Gw .here .h5 rfl)<|QO (vs:=[_,_,_,_,_]) I I I Gw I .u1 .h5 wS<|wH I<|QY ?_
   exact JZ (((⟨rq,i.i,rc⟩,i.ps):Sr×List Vn)) I (.JW (c:=[_,_,_,_,_]) I Gw .u1 (wB I)) (rfl) (λF h9=>⟨h9.2,h9.1.2,by have e:=i.hq;rw[hge]at e;rw[e];exact bJ (by unfold Zr.rs;rw[aa];exact ag _),hxl⟩)
def Ax(rs:List (List Tm))(p:List Tm):Nat->List Tm
 |0=>J6 (Za 0 p)
 |k+1=>J6 (Ax rs p k++J6 (Jb (J6 (Za (k+1) p)) (el rs k)))
structure qt(rs:List (List Tm))(p:List Tm)(N:Nat):Prop where
 n:N=rs.length+1
 n1:N<=1000
 lp:p.length<=100000
 pw:∀t∈p,PW t.2/\t.2.length=N
 sp:∀t∈p,JL t.1<=20000000
 der:∀v,v<=rs.length->KI (Za v p)<=40000000
 mul:∀k,k<rs.length->Lj (J6 (Za (k+1) p)) (el rs k) N
 add:∀k,k<rs.length->qw (Ax rs p k) (J6 (Jb (J6 (Za (k+1) p)) (el rs k)))
structure QG8(n:Nat) where
 i:Nat
 c:Vn
 le:i<=n
theorem XU.eqT{s:Sr}{ts:List ZR}{p:List Tm}(h:XU F s ts p):J1 ts=p:=h.2.2.1
theorem XU.self{s:Sr}{ts:List ZR}{p:List Tm}(h:XU F s ts p):XU F s ts (J1 ts):=by rw[h.eqT];exact h
theorem vH{rs:List (List Tm)}{p:Vn}(hF:Fits F w)(hGl:JC F)(hr:Sw F c rs)(hP:XU F p.1 p.2 (J1 p.2))(ho:qt rs (J1 p.2) N):QS Tryz.prog 235 [c.1.v,p.1.v] w F (λ(d:Vn)=>d.1.v) (λd F=>XU F d.1 d.2 (Ax rs (J1 p.2) rs.length)):=by
 have hrl:=hr.Va
 have hrn:=hr.len
 have hn:=ho.n
 have hn1:=ho.n1
 have hpd:∀v,v<=rs.length->∀t∈p.2,PW t.t.2/\v<t.t.2.length:=λv hv t ht=>⟨(ho.pw _ (aq ht)).1,by rw[(ho.pw _ (aq ht)).2];omega⟩
 have hlp:p.2.length<=100000:=by have:=ho.lp;rwa [Yx]at this
 refine QS.intro (G:=λF=>JC F/\Sw F c rs/\XU F p.1 p.2 (J1 p.2)) Tryz.func235 rfl wc rfl rfl hF (λF' hF'=>⟨hGl.le hF',hr.le hF',hP.le hF'⟩)<|wI<|wH rfl<|wJ rfl<|QI rfl (λw F hF h9=>Og (v:=0) hF h9.1 h9.2.2 (hpd 0 O) hlp (λt ht=>ho.sp _ (aq ht)) (ho.der 0 O)) (λc9=>wH rfl<|QG<|wJ rfl<|QA (Qh rfl Yk)<|wE rfl<|wG<|QU<|JU (ι:=QG8 rs.length) [(1,_),(10,_),(11,_)] (λi=>[(5,.slice i.c.1.q i.c.1.n i.c.1.cap),(12,.int .i64 ((i.i:Nat):Int))]) (λi=>[]) (λi F=>XU F i.c.1 i.c.2 (Ax rs (J1 p.2) i.i)) (λi=>rs.length - i.i) (⟨0,c9,aH _⟩) wQ wP wK wk (λi=>?_))
 simp only[ab,af]
 have hi:=i.le
 refine wI<|QA (QZ I I I)<|wG<|QG ?_
 refine QR I (λhc2=>?_) (λhc2=>?_)
 ·
  have hlt:i.i<rs.length:=by have:=wM hc2;omega
  refine XQ _ (λw F hF ⟨⟨⟨hGl,hr,hP⟩,h9⟩,hA⟩=>ar (hr.at (show i.i<c.1.n by omega)).2 hA.eqT) (λhpp=>?_)
  obtain⟨hea,eA⟩:=hpp
  refine QQ<|QC<|QG<|QU<|wJ I<|QA (Q9 (n:=c.1.n) i.i (λF h9=>h9.1.1.2.1.row) rfl rfl Yk Ya O)<|QA (Jd (n:=c.1.n) ((i.i)*1) (λF h9=>h9.1.1.2.1.row) O rfl Ya (X8 (f:=λe:Vn=>e.1.v) (l:=c.2) O))<|wF I<|wH I<|QB<|wE I<|wE I<|wE I<|QA (Qu I I O) ?_
  rw[show(((i.i:Nat):Int)+1)=((i.i+1:Nat):Int)from rfl]
  refine QI I (λw F hF h9=>Og (v:=i.i+1) hF h9.1.1.1 h9.1.1.2.2 (hpd _ O) hlp (λt ht=>ho.sp _ (aq ht)) (ho.der _ O)) (λc21=>JQ _ (λw F hF h=>h.2.eqT) (λe21=>wE I<|QI I (λw F hF h9=>y3 (q:=el c.2 i.i) (N:=N) hF h9.1.1.1.1 h9.2.self (h9.1.1.1.2.1.at O).1 hn1 (by rw[e21,hea];exact ho.mul _ hlt)) (λc23=>JQ _ (λw F hF h=>h.2.eqT) (λe23=>?_))))
  rw[e21,hea]at e23
  refine QI I (λw F hF h9=>kB (p:=i.c) hF h9.1.1.1.1.1 h9.1.1.2.self h9.2.self (by rw[eA,e23];exact ho.add _ hlt)) (λc24=>JQ _ (λw F hF h=>h.2.eqT) (λe24=>?_))
  rw[eA,e23]at e24
  refine wF I<|QE<|Qk<|QC<|QB<|QA (Qu I I O)<|wE I<|QE ?_
  exact Ql (⟨i.i+1,c24,hlt⟩) (by show rs.length - (i.i+1)<rs.length - i.i;omega) wS wK (λF ⟨⟨⟨⟨⟨⟨hGl,hr,hP⟩,h9⟩,hA⟩,h21⟩,h23⟩,h24⟩=>⟨⟨⟨hGl,hr,hP⟩,h9⟩,by show XU F c24.1 c24.2 (J6 (Ax rs (J1 p.2) i.i++J6 (Jb (J6 (Za (i.i+1) (J1 p.2))) (el rs i.i))));rw[<-e24];exact h24.self⟩)
 ·
  have hge:i.i=rs.length:=by have:=wN hc2;have:=i.le;omega
  refine Qz ?_
  repeat (first | refine QW ?_ | refine QP wc ?_)
  refine QX<|QC<|wJ I<|wH I<|QY ?_
  exact QV (i.c) rfl (wB I) (rfl) (λF h=>by have h1:=h.2;rw[hge]at h1;exact h1)
theorem uW{a:S1}(hF:Fits F w)(hGl:JC F)(hy:Zm F y)(ht:H6 y)(he:y.e=0)(hR:Qy F a.1.q a.1.n 2 (a.2.flatMap Nn))(hA:WQ F a.2)(hta:FC a)(hpe:Yi (Y8 a.2) (y.nm.n:Int)=0):QS Tryz.prog 234 [y.v,a.1.v] w F (λ(c:(Sr×List Vn)×Vn)=>.tuple #[.agg (QED y c.1).toArray,c.2.1.v,.int .i64 0]) (λc F=>Sw F c.1 y.rs/\XU F c.2.1 c.2.2 (Xz (Y8 a.2))):=by
 have ho:=hy.ok he
 have hn1:=ho.n1
 have hn0:=ho.n0
 refine QS.intro (G:=λF=>JC F/\Zm F y/\Qy F a.1.q a.1.n 2 (a.2.flatMap Nn)/\WQ F a.2) Tryz.func234 rfl wc rfl rfl hF (λF' hF'=>⟨hGl.le hF',hy.le hF',hR.le hF',hA.le hF'⟩)<|wI<|Qo rfl (vs:=[_,_,_]) rfl (λb2=>Qb TU (λb4=>wF rfl<|wH rfl<|wI<|QA (QJ (vs:=[_,_,_]) rfl XI .u1 .h3 rfl)<|QI rfl (λw F hF h9=>uU (y:=y) hF h9.1 h9.2.1 ht he) (λc11=>wE rfl<|QA (QT rfl rfl)<|QA (QT rfl rfl)<|Qb TU (λb7=>QO (vs:=[_,_,_,_,_]) rfl rfl rfl Gw rfl .here .h5 wS<|wH rfl<|QG<|wI<|wE rfl ?_))))
 refine QA (QZ I I I)<|QE<|QC ?_
 refine QR I (λhc=>?_) (λhc=>?_)
 ·
  refine QB<|wE I<|QA (QH I uZ JR)<|QA (Qg I JR .here (.skip (.skip (.skip .h1))))<|QA (Xw I I O) ?_
  rw[show((y.nm.n:Int)+1 - 1)=y.nm.n by omega]
  refine QI I (λw F hF h9=>He hF h9.1.1 h9.1.2.2.1 h9.1.2.2.2 hta.1 hta.2.1 hta.2.2) (λ_=>?_)
  rw[show Ht (Y8 a.2) (y.nm.n:Int)=0 by unfold Ht;rw[if_pos ((Gq _).2 O)];exact hpe]
  refine wH I<|QG<|wJ I<|QA (QZ I I I)<|QE<|QC ?_
  refine QR I (λhc=>?_) (λhc=>?_)
  ·exact absurd hc (we)
  ·
   refine QQ<|QC<|QG<|JO (.cons_cons _ (.cons _ wm)) mixed y0<|QK (QJ (vs:=[_,_,_,_,_]) I Gw .here .h5 rfl)<|QK (QD I)<|QN I (λw F hF h9=>PU hF h9.1.1.1 (a:=a) h9.1.1.2.2.1 h9.1.1.2.2.2 hta (BH hpe) O) (λc27=>JV (vs:=[_,_,_,_,_]) I I I Gw I .u1 wm wj .h5 wS<|QK (QF I)<|QK (QF I)<|Q6<|QC<|QY ?_)
   exact JZ (((c11,c27):(Sr×List Vn)×Vn)) I (.JW (c:=[_,_,_,_,_]) I Gw .u1 (wC I I)) (rfl) (λF h9=>⟨h9.1.1.2,h9.2⟩)
 ·exact absurd hc (we)
theorem AV{a:S1}(hF:Fits F w)(hGl:JC F)(hy:Zm F y)(ht:H6 y)(he:y.e=0)(hR:Qy F a.1.q a.1.n 2 (a.2.flatMap Nn))(hA:WQ F a.2)(hta:FC a)(hpe:Yi (Y8 a.2) (y.nm.n:Int)=0)(hok:qt y.rs (Xz (Y8 a.2)) (y.nm.n+1)):Qe Tryz.prog 145 [y.v,a.1.v] w F (.tuple #[.bool (decide (Ax y.rs (Xz (Y8 a.2)) y.rs.length=[])),.int .i64 0]):=by
 refine QS.intro (G:=λF=>JC F/\Zm F y/\Qy F a.1.q a.1.n 2 (a.2.flatMap Nn)/\WQ F a.2) Tryz.func145 rfl wc rfl rfl hF (λF' hF'=>⟨hGl.le hF',hy.le hF',hR.le hF',hA.le hF'⟩)<|wI<|Qo rfl (vs:=[_,_,_]) rfl (λb2=>wF rfl<|wH rfl<|wI<|QA (QJ (vs:=[_,_,_]) rfl XI .here .h3 rfl)<|wE rfl<|QI rfl (λw F hF ⟨hGl,hy,hR,hA⟩=>uW (y:=y) hF hGl hy ht he hR hA hta hpe) (λc12=>JQ _ (λw F hF h=>h.2.2.eqT) (λe12=>wE rfl<|QA (QT rfl rfl)<|QA (QT rfl rfl)<|QA (QT rfl rfl)<|Qb TU (λb6=>QO (vs:=[_,_,_,_,_]) rfl rfl rfl Gw rfl .here .h5 wS<|wF rfl<|wH rfl<|QG ?_))))
 refine wJ I<|QA (QZ I I I)<|QE<|QC ?_
 refine QR I (λhc=>?_) (λhc=>?_)
 ·exact absurd hc (we)
 ·
  refine QQ<|QC<|wI<|QA (QH I Ag Yb)<|QA (Qg I Yb .here (.skip (.skip (.skip (.skip .h1)))))<|wE I<|QI I (λw F hF h9=>vH (N:=y.nm.n+1) hF h9.1.1 h9.2.1 h9.2.2.self (by rw[e12];exact hok)) (λc22=>JQ _ (λw F hF h=>ar h.2.len h.2.2.2.2.2) (λe22=>?_))
  obtain⟨e22,l22⟩:=e22
  rw[e12]at e22
  refine QA (Qh I KB)<|QA (QZ I I I)<|wF I<|wH I<|QY ?_
  exact JZ (()) I (wC I I) (congrArg (λb=>eN #[.bool b,.int .i64 0]) (decide_eq_decide.2 (by rw[<-List.length_eq_zero_iff,<-e22,l22];omega))) wh
theorem Gz{F:Gs}{a b:List UInt8}(h:KA y a l b=0):y.e=0/\Jw a=0/\KN y.nm.n l=0/\Jw b=0:=by
 unfold KA at h
 exact⟨Q7 h _ (.head _),Q7 h _ (.tail _ (.head _)),Q7 h _ (.tail _ (.tail _ (.head _))),Q7 h _ (.tail _ (.tail _ (.tail _ (.head _))))⟩
theorem Xv(h:KN n l=0):l.length=n/\∀s∈l,ZH s.1 s.2=0:=by
 unfold KN at h
 by_cases g:l.length≠n
 ·rw[if_pos g]at h;cases h
 ·rw[if_neg g]at h
  exact⟨O,λs hs=>Q7 h _ (aq hs)⟩
def lV(l:List (List UInt8×List UInt8)):List (Rat×Rat):=l.map JF
theorem KZ(l:List (List UInt8×List UInt8)):(lV l).length=l.length:=by simp[lV]
theorem O4(x:Int):Qn [x]=x:=by
 unfold Qn;split
 ·rename_i h;rw[h];rfl
 ·rfl
theorem QDM(l m:List Int):Qn (l++m)=Qn [Qn l,Qn m]:=by
 induction l with
 |nil=>rw[af,show Qn []=0 from rfl,YL,O4]
 |cons a l ih =>
  by_cases g:a=0
  ·rw[g,ab,YL,YL,ih]
  ·rw[ab,YK g,YK g,YK g]
theorem Gt.pn{y:xw}{rs:List (List Tm)}{vs:List (Rat×Rat)}(h:Gt F y rs vs)(hk:∀l∈rs,l.length<=k):∀e∈y.ps,e.1.n<=k:=λe he=>by
 have h1:=(h.pls e he).2.2.2.2
 have h2:=hk (J1 e.2) (by rw[<-h.val];exact aq (f:=λe:Vn=>J1 e.2) he)
 rw[Yx]at h2;omega
theorem cT.short(h:cT y):∀l∈y.rs,l.length<=64:=λl hl=>by
 unfold Zr.rs at hl
 obtain⟨e,he,rfl⟩:=List.mem_map.1 hl
 unfold Xz;rw[aa];exact(h.pl e he).len
theorem J9.nl{r:Sr}{l:List Y9}{vs:List (Rat×Rat)}(h:J9 F r l vs):r.n=vs.length:=h.YZ.symm
theorem QAk{r:Sr}(hF:Fits F w)(hGl:JC F)(hy:Zm F y)(ht:H6 y)(hx:VG F r l)(hc:DI r l):Qe Tryz.prog 27 [y.v,r.v] w F (.int .i64 (Qn [y.e,KN y.nm.n l])):=by
 refine QS.intro (G:=λF=>JC F/\Zm F y/\VG F r l) Tryz.func27 rfl wc rfl rfl hF (λF' hF'=>⟨hGl.le hF',hy.le hF',hx.le hF'⟩)<|wI<|Qo rfl (vs:=[_,_,_]) rfl (λb2=>wH rfl<|QG<|JO wK mixed y0<|QK (QJ (vs:=[_,_,_]) rfl XI .here .h3 rfl)<|QN rfl (λw F hF h9=>ZT (y:=y) hF h9.1 h9.2.1 ht) (λ_=>QK (QJ (vs:=[_,_,_]) rfl XI .here .h3 rfl)<|QK (QD rfl)<|QN rfl (λw F hF h9=>Ys (y:=y) hF h9.1.1 h9.1.2.1 h9.1.2.2 hc) (λ_=>?_)))
 refine Qm I (Qw ZG) Yf Hz I I (λb10=>?_) (λw h=>h.imp wm (λF h=>h.1.1))
 refine QN I (λw F hF h9=>YR hF (Qy.of (cs:=aT JY [_,_]) h9.2 I) wa) (λ_=>QK (QF I)<|Q6<|QC<|QY ?_)
 exact wL I I (rfl) wh
def vA(y:Zr)(a:List UInt8)(l:List (List UInt8×List UInt8))(b:List UInt8)(lw:List (List UInt8×List UInt8)):Int:=if KA y a l b=0 then Qn [KN y.nm.n lw,Wm (Qs a) (Qs b)]else KA y a l b
structure QG0(rs:List (List Tm))(fr t2:Rat)(x on:List (Rat×Rat)):Prop where
 mv:gY rs fr t2 x on
 sz:∀v∈Zp rs fr t2 x on,Xj v 100000000
theorem QBw(h:KN n l=0):∀v∈lV l,Xj v 2400:=λv hv=>by
 unfold lV at hv
 obtain⟨s,hs,rfl⟩:=List.mem_map.1 hv
 have h1:=VO ((Xv h).2 s hs)
 exact⟨Yy h1.1,Yy h1.2.1⟩
theorem k6{a b:List UInt8}{r:Sr}{rz:Sr}{lw:List (List UInt8×List UInt8)}(hF:Fits F w)(hGl:JC F)(hy:Zm F y)(ht:H6 y)(hx:VG F r l)(hc:DI r l)(ha:a.length<=1000000)(hb:b.length<=1000000)(hxw:VG F rz lw)(hcw:DI rz lw)(hok:vA y a l b lw=0->QG0 y.rs (Qs a) (Qs b) (lV l) (lV lw)):Qe Tryz.prog 62 [y.v,tx a,r.v,tx b,rz.v] w F (.tuple #[.bool (decide (vA y a l b lw=0)&&AX (Zp y.rs (Qs a) (Qs b) (lV l) (lV lw)) (lV lw)),.int .i64 (vA y a l b lw)]):=by
 refine QS.intro (G:=λF=>JC F/\Zm F y/\VG F r l/\VG F rz lw) Tryz.func62 rfl wc rfl rfl hF (λF' hF'=>⟨hGl.le hF',hy.le hF',hx.le hF',hxw.le hF'⟩)<|wI<|Qo rfl (vs:=[_,_,_]) rfl (λb5=>wF rfl<|wH rfl<|wI<|QA (QJ (vs:=[_,_,_]) rfl XI .here .h3 rfl)<|wE rfl<|wE rfl<|wE rfl<|QI rfl (λw F hF h9=>GD (y:=y) hF h9.1 h9.2.1 ht h9.2.2.1 hc ha hb) (λ_=>wF rfl<|QE<|QC ?_))
 refine YV [(1,_),(2,_),(3,_),(4,_),(5,_)] [(12,.int .i64 (vA y a l b lw))] wS ?_ ?_
 ·
  refine wJ I<|QA (QZ I I I)<|QE<|QC ?_
  refine QR I (λhc2=>?_) (λhc2=>?_)
  ·
   have h20s:KA y a l b=0:=by simpa using hc2
   have h20:=Gz (F:=F) h20s
   refine QB<|QA (QJ (vs:=[_,_,_]) I XI .here .h3 rfl)<|wE I<|QI I (λw F hF h9=>Ys (y:=y) hF h9.1.1 h9.1.2.1 h9.1.2.2.2 hcw) (λ_=>wE I<|wE I<|QI I (λw F hF h9=>WD hF h9.1.1.1 ⟨h20.2.1,ha⟩ ⟨h20.2.2.2,hb⟩) (λ_=>Qa I (Qw ZG) Yf Hz I I (λb27=>QI I (λw F hF h9=>YR hF (Qy.of (cs:=aT JY [_,_]) h9.2 I) wa) (λ_=>wF I<|QE ?_))))
   exact J3 ⟨rfl,rfl,rfl,rfl,rfl,(congrArg (λb=>some (ax .i64 b)) (by unfold vA;rw[if_pos h20s])),trivial⟩ wK (λ_ h=>h.1.1.1.1)
  ·
   have h20s:¬KA y a l b=0:=by simpa using hc2
   refine QQ ?_
   exact J3 ⟨rfl,rfl,rfl,rfl,rfl,(congrArg (λb=>some (ax .i64 b)) (by unfold vA;rw[if_neg h20s])),trivial⟩ wK wi
 ·
  simp only[ab,af]
  refine QG<|wJ I<|QA (QZ I I I)<|QE<|QC ?_
  refine QR I (λhc2=>?_) (λhc2=>?_)
  ·
   have h30:=bne_iff_ne.1 hc2
   refine wJ I<|wF I<|wH I<|QY ?_
   exact JZ (()) I (wC I I) (congrArg (λz=>eN #[.bool z,.int .i64 (vA y a l b lw)]) (by rw[decide_eq_false h30];rfl)) wh
  ·
   have h30:=bne_eq_false_iff_eq.1 hc2
   have hok:=hok h30
   have hs0:KA y a l b=0:=by
    unfold vA at h30
    by_cases g:KA y a l b=0
    ·exact g
    ·rw[if_neg g]at h30;exact absurd h30 g
   have hst:=Gz (F:=F) hs0
   have hbw:KN y.nm.n lw=0:=by unfold vA at h30;rw[if_pos hs0]at h30;exact Q7 h30 _ (.head _)
   have ho:=hy.ok hst.1
   have hn1:=ho.n1
   have hn0:=ho.n0
   have hrn:=ho.rn
   have hxl:=(Xv hst.2.2.1).1
   have hwl:=(Xv hbw).1
   have hrs:y.rs.length=y.nm.n:=by unfold Zr.rs;rw[aa,hy.Va,hrn]
   refine QQ<|QC<|wJ rfl<|QI rfl (λw F hF h9=>Bb hF h9.1.1 h9.1.2.2.2.row h9.1.2.2.2.len hcw.n (λs hs=>⟨(Xv hbw).2 s hs,hcw.t s hs⟩)) (λc33=>wH rfl<|wI<|QA (QJ (vs:=[_,_,_]) rfl XI .here .h3 rfl)<|QI rfl (λw F hF h9=>Zi (y:=y) hF h9.1.1.1 h9.1.1.2.1 ht ho) (λc35=>wE rfl<|wE rfl<|wE rfl<|QI rfl (λw F hF h9=>NQ hF h9.1.1.1.1 ⟨hst.2.1,ha⟩ ⟨hst.2.2.2,hb⟩ h9.1.1.1.2.2.1 hc (Xv hst.2.2.1).2) (λc39=>JQ _ (λw F hF ⟨⟨⟨⟨⟨hGl,hy,hx,hxw⟩,_⟩,h33⟩,h35⟩,h39⟩=>ar h33.nl (ar h39.bx.nl (ar h35.Va (h35.pn ho.short)))) (λhnn=>?_))))
   obtain⟨hn33,hn39,hn35,hp35⟩:=hnn
   rw[aa]at hn33 hn39
   refine wE I<|QI I (λw F hF h9=>Mb hF h9.1.2 h9.2 h9.1.1.2 O O O (λe he=>by have:=hp35 e he;omega) hok.mv) (λc41=>wE I<|QI I (λw F hF h9=>UO hF h9.2 h9.1.1.1.2 (by rw[h9.2.nl,YJ,aa];omega) (by rw[h9.2.nl,YJ,aa];omega) hok.sz (λv hv=>(QBw hbw v hv).mono wa)) (λ_=>wF I<|wH I<|QY ?_))
   exact JZ (()) I (wC I I) (by rw[h30];rfl) wh
def Hy(F:Gs)(c:Sr)(vs:List (Rat×Rat)):Prop:=Qy F c.q c.n 2 (vs.flatMap QA1)/\c.n=vs.length/\c.n<=c.cap
theorem Hy.le{c:Sr}{vs:List (Rat×Rat)}(h:Hy F c vs)(k:Gs.le F F'):Hy F' c vs:=⟨h.1.le k,h.2⟩
theorem Hy.nil(F:Gs):Hy F ⟨none,0,0⟩ []:=⟨Qy.nil F none 2,rfl,ag _⟩
def C6(e:Int)(o:Option (List (Rat×Rat))):Int×List (Rat×Rat):=if e≠0 then(e,[])else match o with
 |none=>(25,[])
 |some v=>(if Jz v=true then 4 else 0,if Jz v=true then[]else v)
theorem Tx{e:Int}{o:Option (List (Rat×Rat))}(h:e≠0):C6 e o=(e,[]):=by unfold C6;rw[if_pos h]
theorem IF:C6 0 none=(25,[]):=rfl
theorem Eh(v:List (Rat×Rat)):C6 0 (some v)=(if Jz v=true then 4 else 0,if Jz v=true then[]else v):=rfl
theorem Dk{a b:List UInt8}{r:Sr}(hF:Fits F w)(hGl:JC F)(ha:Jw a=0/\a.length<=1000000)(hb:Jw b=0/\b.length<=1000000)(hx:VG F r l)(hc:DI r l)(ho:∀s∈l,ZH s.1 s.2=0):QS Tryz.prog 126 [tx a,r.v,tx b] w F (λ(c:xx)=>c.v) (λc F=>M5 F c (Qs a) (Qs b) (lV l)):=NQ hF hGl ha hb hx hc ho
theorem BJ{r:Sr}(hF:Fits F w)(hGl:JC F)(hx:VG F r l)(hc:DI r l)(ho:∀s∈l,ZH s.1 s.2=0):Ws Tryz.prog 114 [r.v] w F (lV l):=Bb hF hGl hx.row hx.len hc.n (λs hs=>⟨ho s hs,hc.t s hs⟩)
def Mf(y:Zr)(a:List UInt8)(l:List (List UInt8×List UInt8))(b:List UInt8)(bits:Int):Int:=if Qn [KA y a l b,Vg bits]=0 then Wm (Qs a) (Qs b)else Qn [KA y a l b,Vg bits]
theorem Sk(h:Vg b=0):0<=b/\b<=64:=by
 unfold Vg at h
 by_cases g:(decide (b<0)||decide (b>64))=true
 ·rw[if_pos g]at h;cases h
 ·simp only[bz,decide_eq_true_eq]at g;omega
theorem PZ(h:BR b=0):1<=b/\b<=16:=by
 unfold BR at h
 by_cases g:(decide (b<1)||decide (b>16))=true
 ·rw[if_pos g]at h;cases h
 ·simp only[bz,decide_eq_true_eq]at g;omega
theorem Fa{rs:List (List Tm)}(hb:b<=64)(ho:CP rs fr t2 x):∀k v w,v.length=x.length->EM rs fr t2 x b k v=some w->w.length=x.length/\∀a∈w,Xj a 10000000
 |0,v,w,_,h=>by cases h
 |k+1,v,w,hl,h=>by
  unfold EM at h
  by_cases g:Jz v=true
  ·rw[if_pos g]at h;cases h
  ·rw[if_neg g]at h
   have hsm:=Dx g
   by_cases g2:AX (Zp rs fr t2 x v) v=true
   ·rw[if_pos g2]at h
    cases h
    refine⟨by rw[aa,YJ],λa ha=>?_⟩
    obtain⟨u,hu,rfl⟩:=List.mem_map.1 ha
    exact(Ei (ho.s1 v hl hsm u hu) hb).mono wa
   ·rw[if_neg g2]at h
    exact Fa hb ho k _ w (by rw[En];exact hl) h
theorem Rt{rs:List (List Tm)}{w:List (Rat×Rat)}(hb:b<=64)(ho:CP rs fr t2 x)(h:Y2 rs fr t2 x b=some w):w.length=x.length/\∀a∈w,Xj a 10000000:=Fa hb ho 12 _ w (by rw[En]) h
theorem ID{a b:List UInt8}{r:Sr}{bits:Int}(hF:Fits F w)(hGl:JC F)(hy:Zm F y)(ht:H6 y)(hx:VG F r l)(hc:DI r l)(ha:a.length<=1000000)(hb:b.length<=1000000)(hok:Mf y a l b bits=0->CP y.rs (Qs a) (Qs b) (lV l)):QS Tryz.prog 83 [y.v,tx a,r.v,tx b,.int .i64 bits] w F (λ(c:Sr)=>.tuple #[c.v,.int .i64 (C6 (Mf y a l b bits) (Y2 y.rs (Qs a) (Qs b) (lV l) bits)).1]) (λc F=>Hy F c (C6 (Mf y a l b bits) (Y2 y.rs (Qs a) (Qs b) (lV l) bits)).2):=by
 refine QS.intro (G:=λF=>JC F/\Zm F y/\VG F r l) Tryz.func83 rfl wc rfl rfl hF (λF' hF'=>⟨hGl.le hF',hy.le hF',hx.le hF'⟩)<|wI<|Qo rfl (vs:=[_,_,_]) rfl (λb5=>wF rfl<|wH rfl<|QG<|wI<|QA (QJ (vs:=[_,_,_]) rfl XI .here .h3 rfl)<|wE rfl<|wE rfl<|wE rfl<|QI rfl (λw F hF h9=>GD (y:=y) hF h9.1 h9.2.1 ht h9.2.2 hc ha hb) (λ_=>wE rfl<|QI rfl (λw F hF h9=>Bj hF) (λ_=>Qa rfl (Qw ZG) Yf Hz rfl rfl (λb23=>QI rfl (λw F hF h9=>YR hF (Qy.of (cs:=aT JY [_,_]) h9.2 rfl) wa) (λ_=>wH rfl<|QG<|QB ?_)))))
 refine wE I<|QA (QZ I I I)<|QE<|QC ?_
 refine QR I (λhc2=>?_) (λhc2=>?_)
 ·
  have h26:=bne_iff_ne.1 hc2
  have hpe:Mf y a l b bits=Qn [KA y a l b,Vg bits]:=by unfold Mf;rw[if_neg h26]
  refine wJ I<|wF I<|wH I<|QY ?_
  exact JZ ((⟨none,0,0⟩:Sr)) I (wC I I) (by rw[hpe,Tx h26]) (λF h9=>by rw[hpe,Tx h26];exact Hy.nil F)
 ·
  have h26:Qn [KA y a l b,Vg bits]=0:=bne_eq_false_iff_eq.1 hc2
  have hpe:Mf y a l b bits=Wm (Qs a) (Qs b):=by unfold Mf;rw[if_pos h26]
  have hs0:KA y a l b=0:=Q7 h26 _ (.head _)
  have hbt:=Sk (Q7 h26 _ (.tail _ (.head _)))
  have hst:=Gz (F:=F) hs0
  have ho:=hy.ok hst.1
  have hn1:=ho.n1
  have hn0:=ho.n0
  have hrn:=ho.rn
  have hxl:=(Xv hst.2.2.1).1
  have hrs:y.rs.length=y.nm.n:=by unfold Zr.rs;rw[aa,hy.Va,hrn]
  refine QQ<|QC<|QG<|wJ I<|wE I<|QI I (λw F hF h9=>WD hF h9.1.1.1.1.1 ⟨hst.2.1,ha⟩ ⟨hst.2.2.2,hb⟩) (λ_=>wH I<|wJ I<|QA (QZ I I I)<|QE<|QC ?_)
  refine QR I (λhc2=>?_) (λhc2=>?_)
  ·
   have h32:=bne_iff_ne.1 hc2
   refine wJ I<|wF I<|wH I<|QY ?_
   exact JZ ((⟨none,0,0⟩:Sr)) I (wC I I) (by rw[hpe,Tx h32]) (λF h9=>by rw[hpe,Tx h32];exact Hy.nil F)
  ·
   have h32:Wm (Qs a) (Qs b)=0:=bne_eq_false_iff_eq.1 hc2
   rw[h32]at hpe
   have hok:=hok hpe
   refine QQ<|QC<|wI<|QA (QJ (vs:=[_,_,_]) rfl XI .here .h3 rfl)<|QI rfl (λw F hF h9=>Zi (y:=y) hF h9.1.1.1.1.1.1 h9.1.1.1.1.1.2.1 ht ho) (λc36=>wE rfl<|wE rfl<|wE rfl<|QI rfl (λw F hF h9=>Dk hF h9.1.1.1.1.1.1.1 ⟨hst.2.1,ha⟩ ⟨hst.2.2.2,hb⟩ h9.1.1.1.1.1.1.2.2 hc (Xv hst.2.2.1).2) (λc40=>JQ _ (λw F hF ⟨⟨⟨⟨⟨⟨⟨⟨hGl,hy,hx⟩,_⟩,_⟩,hs23⟩,_⟩,_⟩,h36⟩,h40⟩=>ar h40.bx.nl (ar h36.Va (h36.pn ho.short))) (λhnn=>?_)))
   obtain⟨hn40,hn36,hp36⟩:=hnn
   rw[KZ]at hn40
   refine wE I<|QI I (λw F hF h9=>Cf hF h9.1.1.1.1.1.1.1.1 h9.1.2 h9.2 O O O (λe he=>by have:=hp36 e he;omega) hbt hok) (λc42=>wE I<|QA (QT I I)<|QA (QT I I)<|wF I<|wH I<|QG<|wJ I<|QA (YN I)<|QE<|QC ?_)
   refine QR I (λhc2=>?_) (λhc2=>?_)
   ·
    have hv:Y2 y.rs (Qs a) (Qs b) (lV l) bits=none:=by cases hv:Y2 y.rs (Qs a) (Qs b) (lV l) bits with
     |none=>rfl
     |some v=>rw[hv]at hc2;cases hc2
    refine wI<|wF I<|wH I<|QY ?_
    exact JZ ((⟨none,0,0⟩:Sr)) I (wC I I) (by rw[hpe,hv,IF]) (λF h9=>by rw[hpe,hv,IF];exact Hy.nil F)
   ·
    obtain⟨v,hv⟩:∃v,Y2 y.rs (Qs a) (Qs b) (lV l) bits=some v:=by cases hv:Y2 y.rs (Qs a) (Qs b) (lV l) bits with
     |none=>rw[hv]at hc2;cases hc2
     |some v=>exact⟨v,rfl⟩
    have hv2:=Rt hbt.2 hok hv
    refine XQ _ (λw F hF ⟨⟨⟨⟨⟨⟨⟨⟨⟨hGl,hy,hx⟩,_⟩,_⟩,hs23⟩,_⟩,_⟩,h36⟩,h40⟩,h42⟩=>(show J9 F c42.1 c42.2 v by rw[hv]at h42;exact h42).nl) (λhn42=>?_)
    rw[KZ]at hv2
    refine QQ<|QC<|wJ I<|QI I (λw F hF ⟨⟨⟨⟨⟨⟨⟨⟨⟨hGl,hy,hx⟩,_⟩,_⟩,hs23⟩,_⟩,_⟩,h36⟩,h40⟩,h42⟩=>Ba (r:=c42.1) (l:=c42.2) (vs:=v) hF hGl (by rw[hv]at h42;exact h42) O (λs hs=>(hv2.2 s hs).mono wa)) (λc48=>QA (QT I I)<|QA (QT I I)<|wF I<|wH I<|QY ?_)
    exact JZ (c48) rfl (wC I I) (by rw[hpe,hv,Eh];rfl) (λF h9=>by rw[hpe,hv,Eh];exact h9.2)
def N5(y:Zr)(a:List UInt8)(l:List (List UInt8×List UInt8))(b:List UInt8)(lw:List (List UInt8×List UInt8))(o:Int):Int:=if KA y a l b=0 then Qn [KN y.nm.n lw,BR o,Wm (Qs a) (Qs b)]else KA y a l b
theorem jE{a b:List UInt8}{r:Sr}{rz:Sr}{lw:List (List UInt8×List UInt8)}{o:Int}(hF:Fits F w)(hGl:JC F)(hy:Zm F y)(ht:H6 y)(hx:VG F r l)(hc:DI r l)(ha:a.length<=1000000)(hb:b.length<=1000000)(hxw:VG F rz lw)(hcw:DI rz lw)(hok:N5 y a l b lw o=0->gT y.rs (Qs a) (Qs b) (lV l) (lV lw) o.toNat/\∀v∈Zn y.rs (Qs a) (Qs b) (lV l) (lV lw) o.toNat,Xj v 100000000):QS Tryz.prog 37 [y.v,tx a,r.v,tx b,rz.v,.int .i64 o] w F (λ(c:Sr)=>.tuple #[c.v,.int .i64 (C6 (N5 y a l b lw o) (some (Zn y.rs (Qs a) (Qs b) (lV l) (lV lw) o.toNat))).1]) (λc F=>Hy F c (C6 (N5 y a l b lw o) (some (Zn y.rs (Qs a) (Qs b) (lV l) (lV lw) o.toNat))).2):=by
 refine QS.intro (G:=λF=>JC F/\Zm F y/\VG F r l/\VG F rz lw) Tryz.func37 rfl wc rfl rfl hF (λF' hF'=>⟨hGl.le hF',hy.le hF',hx.le hF',hxw.le hF'⟩)<|wI<|Qo rfl (vs:=[_,_,_]) rfl (λb6=>wF rfl<|wH rfl<|wI<|QA (QJ (vs:=[_,_,_]) rfl XI .here .h3 rfl)<|wE rfl<|wE rfl<|wE rfl<|QI rfl (λw F hF h9=>GD (y:=y) hF h9.1 h9.2.1 ht h9.2.2.1 hc ha hb) (λ_=>wF rfl<|QE<|QC ?_))
 refine YV [(1,_),(2,_),(3,_),(4,_),(5,_),(6,_)] [(14,.int .i64 (N5 y a l b lw o))] wT ?_ ?_
 ·
  refine wJ I<|QA (QZ I I I)<|QE<|QC ?_
  refine QR I (λhc2=>?_) (λhc2=>?_)
  ·
   have h21s:KA y a l b=0:=by simpa using hc2
   have h21:=Gz (F:=F) h21s
   refine QB<|QA (QJ (vs:=[_,_,_]) I XI .here .h3 rfl)<|wE I<|QI I (λw F hF h9=>Ys (y:=y) hF h9.1.1 h9.1.2.1 h9.1.2.2.2 hcw) (λ_=>wE I<|QI I (λw F hF h9=>WC hF) (λ_=>wE I<|wE I<|QI I (λw F hF h9=>WD hF h9.1.1.1.1 ⟨h21.2.1,ha⟩ ⟨h21.2.2.2,hb⟩) (λ_=>Qa I (Qw ZG) Yf Hz I I (λb30=>QI I (λw F hF h9=>YR hF (Qy.of (cs:=aT JY [_,_,_]) h9.2 I) wa) (λ_=>wF I<|QE ?_)))))
   exact J3 ⟨rfl,rfl,rfl,rfl,rfl,rfl,(congrArg (λb=>some (ax .i64 b)) (by unfold N5;rw[if_pos h21s])),trivial⟩ wK (λ_ h=>h.1.1.1.1.1)
  ·
   have h21s:¬KA y a l b=0:=by simpa using hc2
   refine QQ ?_
   exact J3 ⟨rfl,rfl,rfl,rfl,rfl,rfl,(congrArg (λb=>some (ax .i64 b)) (by unfold N5;rw[if_neg h21s])),trivial⟩ wK wi
 ·
  simp only[ab,af]
  refine QG<|wJ I<|QA (QZ I I I)<|QE<|QC ?_
  refine QR I (λhc2=>?_) (λhc2=>?_)
  ·
   have h33:=bne_iff_ne.1 hc2
   refine wJ I<|wF I<|wH I<|QY ?_
   exact JZ ((⟨none,0,0⟩:Sr)) I (wC I I) (by rw[Tx h33]) (λF h9=>by rw[Tx h33];exact Hy.nil F)
  ·
   have h33:N5 y a l b lw o=0:=bne_eq_false_iff_eq.1 hc2
   have hok:=hok h33
   have hs0:KA y a l b=0:=by
    unfold N5 at h33
    by_cases g:KA y a l b=0
    ·exact g
    ·rw[if_neg g]at h33;exact absurd h33 g
   have hz3:Qn [KN y.nm.n lw,BR o,Wm (Qs a) (Qs b)]=0:=by unfold N5 at h33;rw[if_pos hs0]at h33;exact h33
   have hbw:KN y.nm.n lw=0:=Q7 hz3 _ (.head _)
   have hor:=PZ (Q7 hz3 _ (.tail _ (.head _)))
   have hwl:=(Xv hbw).1
   have hst:=Gz (F:=F) hs0
   have ho:=hy.ok hst.1
   have hn1:=ho.n1
   have hn0:=ho.n0
   have hrn:=ho.rn
   have hxl:=(Xv hst.2.2.1).1
   have hrs:y.rs.length=y.nm.n:=by unfold Zr.rs;rw[aa,hy.Va,hrn]
   obtain⟨n,rfl⟩:∃n:Nat,o=(n:Int):=⟨o.toNat,O⟩
   rw[ah]at hok
   refine QQ<|QC<|wI<|QA (QJ (vs:=[_,_,_]) rfl XI .here .h3 rfl)<|QI rfl (λw F hF h9=>Zi (y:=y) hF h9.1.1 h9.1.2.1 ht ho) (λc36=>wE rfl<|wE rfl<|wE rfl<|QI rfl (λw F hF h9=>Dk hF h9.1.1.1 ⟨hst.2.1,ha⟩ ⟨hst.2.2.2,hb⟩ h9.1.1.2.2.1 hc (Xv hst.2.2.1).2) (λc40=>JQ _ (λw F hF ⟨⟨⟨⟨hGl,hy,hx,hxw⟩,_⟩,h36⟩,h40⟩=>ar h40.bx.nl (ar h36.Va (h36.pn ho.short))) (λhnn=>?_)))
   obtain⟨hn40,hn36,hp36⟩:=hnn
   rw[KZ]at hn40
   refine wE I<|QI I (λw F hF h9=>BJ hF h9.1.1.1.1 h9.1.1.1.2.2.2 hcw (Xv hbw).2) (λc42=>wE I<|JQ _ (λw F hF h9=>h9.2.nl) (λhn42=>?_))
   rw[KZ]at hn42
   refine QI I (λw F hF h9=>NO (n:=n) hF h9.1.1.2 h9.1.2 h9.2 O O O O O (λe he=>by have:=hp36 e he;omega) hok.1) (λc44=>JQ _ (λw F hF h=>h.2.nl) (λhn44=>?_))
   rw[show(Zn y.rs (Qs a) (Qs b) (lV l) (lV lw) n).length=l.length by simp[Zn,lV]]at hn44
   refine QI I (λw F hF h9=>Ba (r:=c44.1) (l:=c44.2) (vs:=(Zn y.rs (Qs a) (Qs b) (lV l) (lV lw) n)) hF h9.1.1.1.1.1.1 h9.2 O hok.2) (λc45=>QA (QT I I)<|QA (QT I I)<|wF I<|wH I<|QY ?_)
   exact JZ (c45) rfl (wC I I) (by rw[h33,ah,Eh];rfl) (λF h9=>by rw[h33,ah,Eh];exact h9.2)
structure gW(rs:List (List Tm))(fr t2:Rat)(x:List (Rat×Rat))(n:Nat)(b:Int):Prop where
 tr:CP rs fr t2 x
 tb:∀v,Y2 rs fr t2 x b=some v->gT rs fr t2 x v n/\∀s∈Zn rs fr t2 x v n,Xj s 10000000
abbrev dK:=(Sr×List Y9)×(Sr×List Y9)
def mdV(c:dK):Value:=.agg #[c.1.1.v,c.2.1.v]
def stF(F:Gs)(o:Option (List (Rat×Rat)×List (Rat×Rat)))(c:dK):Prop:=match o with
 |none=>c.1.1=⟨none,0,0⟩/\c.2.1=⟨none,0,0⟩
 |some v=>J9 F c.1.1 c.1.2 v.1/\J9 F c.2.1 c.2.2 v.2
theorem Bw{rs:List (List Tm)}(h:Y2 rs fr t2 x b=none):KJ rs fr t2 x n b=none:=by unfold KJ;rw[h];rfl
theorem Bv{rs:List (List Tm)}{v:List (Rat×Rat)}(h:Y2 rs fr t2 x b=some v):KJ rs fr t2 x n b=some (v,(Zn rs fr t2 x v n).map (YH · b)):=by unfold KJ;rw[h];rfl
theorem EX{rs:List (List Tm)}{p:List (Rat×Rat)×List (Rat×Rat)}(hb:b<=64)(ho:gW rs fr t2 x n b)(h:KJ rs fr t2 x n b=some p):(p.1.length=x.length/\p.2.length=x.length)/\(∀a∈p.1,Xj a 100000000)/\∀a∈p.2,Xj a 100000000:=by
 cases hv:Y2 rs fr t2 x b with
 |none=>rw[Bw hv]at h;cases h
 |some v =>
  rw[Bv hv]at h
  cases h
  have h1:=Rt hb ho.tr hv
  refine⟨⟨h1.1,by simp[Zn]⟩,λa ha=>(h1.2 a ha).mono wa,λa ha=>?_⟩
  obtain⟨u,hu,rfl⟩:=List.mem_map.1 ha
  exact(Ei ((ho.tb v hv).2 u hu) hb).mono wa
theorem yB{y:xw}{x:xx}{rs:List (List Tm)}{vs vx:List (Rat×Rat)}{n:Nat}(hF:Fits F w)(hGl:JC F)(hy:Gt F y rs vs)(hx:M5 F x fr t2 vx)(hn:y.rt.n=x.bx.n)(hnx:x.bx.n<=1000)(hn0:0<x.bx.n)(hpn:∀e∈y.ps,e.1.n<=100000)(hor:n<=300)(hb:0<=b/\b<=64)(ho:gW rs fr t2 vx n b):
  QS Tryz.prog 165 [.pointer (some ⟨y.b,0,none⟩),x.v,.int .i64 (n:Int),.int .i64 b] w F (λc=>.tuple #[mdV c,.bool (KJ rs fr t2 vx n b).isSome]) (λc F=>stF F (KJ rs fr t2 vx n b) c):=by
 have hxn:=hx.bx.nl
 refine QS.intro (G:=λF=>JC F/\Gt F y rs vs/\M5 F x fr t2 vx) Tryz.func165 rfl wc rfl rfl hF (λF' hF'=>⟨hGl.le hF',hy.le hF',hx.le hF'⟩)<|wI<|Qo rfl (vs:=[_,_,_,_,_,_,_,_,_]) rfl (λb5=>Qb NK (λb8=>wH rfl<|wJ rfl<|QA (QJ (vs:=[_,_,_,_,_,_,_,_,_]) rfl BD .u1 .h9 rfl)<|wE rfl<|QI rfl (λw F hF h9=>Cf hF h9.1 h9.2.1 h9.2.2 hn O O (λe he=>by have:=hpn e he;omega) hb ho.tr) (λc16=>wE I<|QA (QT I I)<|QA (QT I I)<|wF I<|wH I<|QG<|wI<|wE I ?_)))
 refine QA (YN I)<|QE<|QC ?_
 refine QR I (λhc2=>?_) (λhc2=>?_)
 ·
  have hv:Y2 rs fr t2 vx b=none:=by cases hv:Y2 rs fr t2 vx b with
   |none=>rfl
   |some v=>rw[hv]at hc2;cases hc2
  refine wI<|QA (Qv I y6 NK .nil)<|QO (vs:=[_,_]) I I I Kv I .here .h2 wP<|wH I<|QY ?_
  exact JZ (((⟨none,0,0⟩,[]),(⟨none,0,0⟩,[]))) I (.JW (c:=[_,_]) I Kv .here (wB I)) (by rw[Bw hv];rfl) (λF h9=>by rw[Bw hv];exact⟨rfl,rfl⟩)
 ·
  obtain⟨v,hv⟩:∃v,Y2 rs fr t2 vx b=some v:=by cases hv:Y2 rs fr t2 vx b with
   |none=>rw[hv]at hc2;cases hc2
   |some v=>exact⟨v,rfl⟩
  have hk:=ho.tb v hv
  have hv2:=Rt hb.2 ho.tr hv
  refine XQ _ (λw F hF ⟨⟨hGl,hy,hx⟩,h16⟩=>(show J9 F c16.1 c16.2 v by rw[hv]at h16;exact h16).nl) (λhn16=>QQ<|QC<|wJ I<|wE I<|QA (QJ (vs:=[_,_,_,_,_,_,_,_,_]) I BD .u1 .h9 rfl)<|wE I<|wE I<|QI I (λw F hF ⟨⟨hGl,hy,hx⟩,h16⟩=>NO (ro:=c16.1) (lo:=c16.2) hF hy hx (by rw[hv]at h16;exact h16) O O O O O hpn hk.1) (λc27=>JQ _ (λw F hF h=>h.2.nl) (λhn27=>?_)))
  rw[show(Zn rs fr t2 vx v n).length=vx.length by simp[Zn]]at hn27
  refine wE I<|QI I (λw F hF h9=>jN hF h9.2 hb O hk.2) (λc29=>QA (Qv I y6 NK (wD I I I))<|QO (vs:=[_,_]) I I I Kv I .here .h2 wP<|wH I<|QY ?_)
  exact JZ ((c16,c29)) I (.JW (c:=[_,_]) I Kv .here (wB I)) (by rw[Bv hv];rfl) (λF ⟨⟨⟨⟨hGl,hy,hx⟩,h16⟩,h27⟩,h29⟩=>by rw[Bv hv];exact⟨by rw[hv]at h16;exact h16,h29⟩)
def mbL(v:List (Rat×Rat))(bad:Bool):List (Rat×Rat):=if bad=true then[]else v
def mbE(bad:Bool):Int:=if bad=true then 4 else 0
def mbT(s:List UInt8)(bad:Bool):List UInt8:=if bad=true then[]else s
theorem kW{c:dK}{v u:List (Rat×Rat)}(hF:Fits F w)(hGl:JC F)(hv:J9 F c.1.1 c.1.2 v)(hu:J9 F c.2.1 c.2.2 u)(hnv:v.length<=1000000)(hnu:u.length<=1000000)(hzv:∀a∈v,Xj a 100000000)(hzu:∀a∈u,Xj a 100000000):
  QS Tryz.prog 166 [mdV c,tx s] w F (λ(d:Sr×Sr)=>.tuple #[.agg #[tx (mbT s (Jz v||Jz u)),d.1.v,d.2.v],.int .i64 (mbE (Jz v||Jz u))]) (λd F=>Hy F d.1 (mbL v (Jz v||Jz u))/\Hy F d.2 (mbL u (Jz v||Jz u))):=by
 have hvn:=hv.nl
 have hun:=hu.nl
 unfold mdV
 refine QS.intro (G:=λF=>JC F/\J9 F c.1.1 c.1.2 v/\J9 F c.2.1 c.2.2 u) Tryz.func166 rfl wc rfl rfl hF (λF' hF'=>⟨hGl.le hF',hv.le hF',hu.le hF'⟩)<|wI<|Qo rfl (vs:=[_,_]) rfl (λb2=>Qb W3 (λb4=>wH rfl<|wI<|QA (QH rfl ua JE)<|QA (Qg rfl JE .u1 .h1)<|QI rfl (λw F hF h9=>Ba (r:=c.1.1) (l:=c.1.2) (vs:=v) hF h9.1 h9.2.1 O hzv) (λc12=>wE rfl<|QA (QT rfl rfl)<|QA (QT rfl rfl)<|wF rfl<|wH rfl<|QG<|wJ rfl<|QA (QZ rfl rfl rfl) ?_)))
 refine QE<|QC ?_
 refine QR I (λhc2=>?_) (λhc2=>?_)
 ·
  have hL:Jz v=true:=by
   cases e:Jz v with
   |true=>rfl
   |false=>rw[e]at hc2;cases hc2
  have hbad:(Jz v||Jz u)=true:=by rw[hL];rfl
  refine wI<|QA (Qv I Rs W3 .nil)<|wE I<|QO (vs:=[_,_,_]) I I I ZF I .here .h3 wQ<|wH I<|QY ?_
  exact JZ (((⟨none,0,0⟩:Sr),(⟨none,0,0⟩:Sr))) I (.JW (c:=[_,_,_]) I ZF .here (wB I)) (by rw[hbad,hL];rfl) (λF h9=>by rw[hbad];exact⟨Hy.nil F,Hy.nil F⟩)
 ·
  have hL:Jz v=false:=by
   cases e:Jz v with
   |false=>rfl
   |true=>rw[e]at hc2;cases hc2
  refine QQ<|QC<|wI<|QA (QH I qR JE)<|QA (Qg I JE .u1 (.skip .h1))<|QI I (λw F hF h9=>Ba (r:=c.2.1) (l:=c.2.2) (vs:=u) hF h9.1.1 h9.1.2.2 O hzu) (λc22=>wE I<|QA (QT I I)<|QA (QT I I)<|wF I<|wH I<|QG<|wJ I<|QA (QZ I I I)<|QE<|QC ?_)
  refine QR I (λhc2=>?_) (λhc2=>?_)
  ·
   have hL2:Jz u=true:=by
    cases e:Jz u with
    |true=>rfl
    |false=>rw[e]at hc2;cases hc2
   have hbad:(Jz v||Jz u)=true:=by rw[hL2,Bool.or_true]
   refine wI<|QA (Qv I Rs W3 .nil)<|wE I<|QO (vs:=[_,_,_]) I I I ZF I .here .h3 wQ<|wH I<|QY ?_
   exact JZ (((⟨none,0,0⟩:Sr),(⟨none,0,0⟩:Sr))) I (.JW (c:=[_,_,_]) I ZF .here (wB I)) (by rw[hbad,hL2];rfl) (λF h9=>by rw[hbad];exact⟨Hy.nil F,Hy.nil F⟩)
  ·
   have hL2:Jz u=false:=by
    cases e:Jz u with
    |false=>rfl
    |true=>rw[e]at hc2;cases hc2
   have hbad:(Jz v||Jz u)=false:=by rw[hL,hL2];rfl
   refine QQ<|QC<|wJ I<|wE I<|wE I<|QA (Qv I Rs W3 (.cons (vs:=[_]) I I I .h1 (.cons (vs:=[_]) I I I (.skip .h1) (.cons (vs:=[_]) I I I (.skip (.skip .h1)) .nil))))<|QO (vs:=[_,_,_]) I I I ZF I .here .h3 wQ<|wH I<|QY ?_
   exact JZ ((c12,c22)) I (.JW (c:=[_,_,_]) I ZF .here (wB I)) (by rw[hbad];rfl) (λF ⟨⟨⟨hGl,hv,hu⟩,h12⟩,h22⟩=>by rw[hbad];rw[hL]at h12;rw[hL2]at h22;exact⟨h12,h22⟩)
def dH(e:Int)(o:Option (List (Rat×Rat)×List (Rat×Rat)))(s:List UInt8):(List UInt8×List (Rat×Rat)×List (Rat×Rat))×Int:=if e≠0 then(([],[],[]),e)else match o with
 |none=>(([],[],[]),25)
 |some p=>((mbT s (Jz p.1||Jz p.2),mbL p.1 (Jz p.1||Jz p.2),mbL p.2 (Jz p.1||Jz p.2)),mbE (Jz p.1||Jz p.2))
theorem QAl{e:Int}{o:Option (List (Rat×Rat)×List (Rat×Rat))}(h:e≠0):dH e o s=(([],[],[]),e):=by unfold dH;rw[if_pos h]
theorem LY:dH 0 none s=(([],[],[]),25):=rfl
theorem LX(p:List (Rat×Rat)×List (Rat×Rat))(s:List UInt8):dH 0 (some p) s=((mbT s (Jz p.1||Jz p.2),mbL p.1 (Jz p.1||Jz p.2),mbL p.2 (Jz p.1||Jz p.2)),mbE (Jz p.1||Jz p.2)):=rfl
def MW(y:Zr)(a:List UInt8)(l:List (List UInt8×List UInt8))(b:List UInt8)(o bits:Int):Int:=if Qn [KA y a l b,BR o,Vg bits]=0 then Wm (Qs a) (Qs b)else Qn [KA y a l b,BR o,Vg bits]
theorem dn{a b:List UInt8}{r:Sr}{o bits:Int}(hF:Fits F w)(hGl:JC F)(hy:Zm F y)(ht:H6 y)(hx:VG F r l)(hc:DI r l)(ha:a.length<=1000000)(hb:b.length<=1000000)(hok:MW y a l b o bits=0->gW y.rs (Qs a) (Qs b) (lV l) o.toNat bits):QS Tryz.prog 84 [y.v,tx a,r.v,tx b,.int .i64 o,.int .i64 bits] w F (λ(d:Sr×Sr)=>.tuple #[.agg #[tx (dH (MW y a l b o bits) (KJ y.rs (Qs a) (Qs b) (lV l) o.toNat bits) b).1.1,d.1.v,d.2.v],.int .i64 (dH (MW y a l b o bits) (KJ y.rs (Qs a) (Qs b) (lV l) o.toNat bits) b).2]) (λd F=>Hy F d.1 (dH (MW y a l b o bits) (KJ y.rs (Qs a) (Qs b) (lV l) o.toNat bits) b).1.2.1/\Hy F d.2 (dH (MW y a l b o bits) (KJ y.rs (Qs a) (Qs b) (lV l) o.toNat bits) b).1.2.2):=by
 refine QS.intro (G:=λF=>JC F/\Zm F y/\VG F r l) Tryz.func84 rfl wc rfl rfl hF (λF' hF'=>⟨hGl.le hF',hy.le hF',hx.le hF'⟩)<|wI<|Qo rfl (vs:=[_,_,_]) rfl (λb6=>Qb W3 (λb12=>wH rfl<|wI<|QA (QJ (vs:=[_,_,_]) rfl XI .u1 .h3 rfl)<|wE rfl<|wE rfl<|wE rfl<|QI rfl (λw F hF h9=>GD (y:=y) hF h9.1 h9.2.1 ht h9.2.2 hc ha hb) (λ_=>wE rfl<|QI rfl (λw F hF h9=>WC hF) (λ_=>wE rfl<|QI rfl (λw F hF h9=>Bj hF) (λ_=>Qa rfl (Qw ZG) Yf Hz rfl rfl (λb26=>QI rfl (λw F hF h9=>YR hF (Qy.of (cs:=aT JY [_,_,_]) h9.2 rfl) wa) (λ_=>wF rfl<|QE<|QC ?_)))))))
 refine YV [(1,_),(2,_),(3,_),(4,_),(5,_),(6,_),(12,_)] [(14,.int .i64 (MW y a l b o bits))] wU ?_ ?_
 ·
  refine wJ I<|QA (QZ I I I)<|QE<|QC ?_
  refine QR I (λhc2=>?_) (λhc2=>?_)
  ·
   have h29s:Qn [KA y a l b,BR o,Vg bits]=0:=by simpa using hc2
   have h29:=Gz (F:=F) (Q7 h29s (KA y a l b) (.head _))
   refine QB<|wE I<|wE I<|QI I (λw F hF h9=>WD hF h9.1.1.1.1.1.1 ⟨h29.2.1,ha⟩ ⟨h29.2.2.2,hb⟩) (λ_=>wF I<|QE ?_)
   exact J3 ⟨rfl,rfl,rfl,rfl,rfl,rfl,rfl,(congrArg (λb=>some (ax .i64 b)) (by unfold MW;rw[if_pos h29s])),trivial⟩ wK wj
  ·
   have h29s:¬Qn [KA y a l b,BR o,Vg bits]=0:=by simpa using hc2
   refine QQ ?_
   exact J3 ⟨rfl,rfl,rfl,rfl,rfl,rfl,rfl,(congrArg (λb=>some (ax .i64 b)) (by unfold MW;rw[if_neg h29s])),trivial⟩ wK wi
 ·
  simp only[ab,af]
  refine QG<|wJ I<|QA (QZ I I I)<|QE<|QC ?_
  refine QR I (λhc2=>?_) (λhc2=>?_)
  ·
   have h34:=bne_iff_ne.1 hc2
   refine wI<|QA (Qv I Rs W3 .nil)<|wE I<|QO (vs:=[_,_,_]) I I I ZF I .here .h3 wQ<|wH I<|QY ?_
   exact JZ (((⟨none,0,0⟩:Sr),(⟨none,0,0⟩:Sr))) I (.JW (c:=[_,_,_]) I ZF .here (wB I)) (by rw[QAl h34];rfl) (λF h9=>by rw[QAl h34];exact⟨Hy.nil F,Hy.nil F⟩)
  ·
   have h34:MW y a l b o bits=0:=bne_eq_false_iff_eq.1 hc2
   have hok:=hok h34
   have hz3:Qn [KA y a l b,BR o,Vg bits]=0:=by
    unfold MW at h34
    by_cases g:Qn [KA y a l b,BR o,Vg bits]=0
    ·exact g
    ·rw[if_neg g]at h34;exact absurd h34 g
   have hs0:KA y a l b=0:=Q7 hz3 _ (.head _)
   have hor:=PZ (Q7 hz3 _ (.tail _ (.head _)))
   have hbt:=Sk (Q7 hz3 _ (.tail _ (.tail _ (.head _))))
   have hst:=Gz (F:=F) hs0
   have ho:=hy.ok hst.1
   have hn1:=ho.n1
   have hn0:=ho.n0
   have hrn:=ho.rn
   have hxl:=(Xv hst.2.2.1).1
   have hrs:y.rs.length=y.nm.n:=by unfold Zr.rs;rw[aa,hy.Va,hrn]
   obtain⟨n,rfl⟩:∃n:Nat,o=(n:Int):=⟨o.toNat,O⟩
   rw[ah]at hok
   refine QQ<|QC<|wI<|QA (QJ (vs:=[_,_,_]) rfl XI .u1 .h3 rfl)<|QI rfl (λw F hF h9=>Zi (y:=y) hF h9.1.1.1.1.1.1 h9.1.1.1.1.1.2.1 ht ho) (λc39=>wE rfl<|wE rfl<|wE rfl<|QI rfl (λw F hF h9=>Dk hF h9.1.1.1.1.1.1.1 ⟨hst.2.1,ha⟩ ⟨hst.2.2.2,hb⟩ h9.1.1.1.1.1.1.2.2 hc (Xv hst.2.2.1).2) (λc43=>JQ _ (λw F hF ⟨⟨⟨⟨⟨⟨⟨⟨hGl,hy,hx⟩,_⟩,_⟩,_⟩,hs26⟩,_⟩,h39⟩,h43⟩=>ar h43.bx.nl (ar h39.Va (h39.pn ho.short))) (λhnn=>?_)))
   obtain⟨hn43,hn39,hp39⟩:=hnn
   rw[KZ]at hn43
   refine wE I<|wE I<|QI I (λw F hF h9=>yB (n:=n) hF h9.1.1.1.1.1.1.1.1 h9.1.2 h9.2 O O O (λe he=>by have:=hp39 e he;omega) O hbt hok) (λc46=>wE I<|QA (QT I I)<|QA (QT I I)<|Qb NK (λb15=>QO (vs:=[_,_]) I I I Kv I .here .h2 wP<|wH I<|QG<|wJ I<|QA (YN I)<|QE<|QC ?_))
   refine QR I (λhc2=>?_) (λhc2=>?_)
   ·
    have hv:KJ y.rs (Qs a) (Qs b) (lV l) n bits=none:=by cases hv:KJ y.rs (Qs a) (Qs b) (lV l) n bits with
     |none=>rfl
     |some v=>rw[hv]at hc2;cases hc2
    refine wI<|QA (Qv I Rs W3 .nil)<|QO (vs:=[_,_,_]) I I I ZF I .u1 .h3 wQ<|wH I<|QY ?_
    exact JZ (((⟨none,0,0⟩:Sr),(⟨none,0,0⟩:Sr))) I (.JW (c:=[_,_,_]) I ZF .u1 (wB I)) (by rw[h34,ah,hv,LY];rfl) (λF h9=>by rw[h34,ah,hv,LY];exact⟨Hy.nil F,Hy.nil F⟩)
   ·
    obtain⟨v,hv⟩:∃v,KJ y.rs (Qs a) (Qs b) (lV l) n bits=some v:=by cases hv:KJ y.rs (Qs a) (Qs b) (lV l) n bits with
     |none=>rw[hv]at hc2;cases hc2
     |some v=>exact⟨v,rfl⟩
    have hz:=EX hbt.2 hok hv
    rw[KZ]at hz
    refine QQ<|QC<|wI<|QA (QJ (vs:=[_,_]) I Kv .here .h2 rfl)<|wE I<|QI I (λw F hF ⟨⟨⟨⟨⟨⟨⟨⟨⟨hGl,hy,hx⟩,_⟩,_⟩,_⟩,hs26⟩,_⟩,h39⟩,h43⟩,h46⟩=>kW (c:=c46) (v:=v.1) (u:=v.2) (s:=b) hF hGl (by rw[hv]at h46;exact h46.1) (by rw[hv]at h46;exact h46.2) O O hz.2.1 hz.2.2) (λc54=>QA (QT I I)<|QA (QT I I)<|QO (vs:=[_,_,_]) I I I ZF I .u1 .h3 wQ<|wH I<|QY ?_)
    exact JZ (c54) rfl (.JW (c:=[_,_,_]) I ZF .u1 (wB I)) (by rw[h34,ah,hv,LX];rfl) (λF h9=>by rw[h34,ah,hv,LX];exact h9.2)
instance :Inhabited Sr:=⟨⟨none,0,0⟩⟩
def BQ(y:Zr)(t:List UInt8×List UInt8)(l:List (List UInt8×List UInt8)):Int:=Qn [y.e,ZH t.1 t.2,KN y.nm.n l]
def Fx(y:Zr)(t:List UInt8×List UInt8)(l:List (List UInt8×List UInt8))(o:Int):Int:=Qn [y.e,ZH t.1 t.2,KN y.nm.n l,BR o]
def seR(e:Int)(tt:List (List (Rat×Rat))):Int×List (List (Rat×Rat)):=if e≠0 then(e,[])else(if tt.any Jz=true then 4 else 0,if tt.any Jz=true then[]else tt)
theorem cq{e:Int}(h:e≠0):seR e tt=(e,[]):=by unfold seR;rw[if_pos h]
theorem Cs(tt:List (List (Rat×Rat))):seR 0 tt=(if tt.any Jz=true then 4 else 0,if tt.any Jz=true then[]else tt):=rfl
structure CO(F:Gs)(c:Sr×List Sr)(tt:List (List (Rat×Rat))):Prop where
 row:Qy F c.1.q c.1.n 1 (c.2.map Sr.v)
 len:c.2.length=c.1.n
 QDk:c.1.n=tt.length
 el:∀j,j<tt.length->Hy F (el c.2 j) (el tt j)
theorem CO.nil(F:Gs):CO F (⟨none,0,0⟩,[]) []:=⟨Qy.nil F none 1,rfl,rfl,λj h=>absurd h (bj _)⟩
structure SeJ(tt:List (List (Rat×Rat))) where
 i:Nat
 v:Value
 ob:List (Nat×Obj)
 rs:List Sr
 le:i<=tt.length
 len:rs.length=i
 hr:Qx 36 1 v i (rs.map Sr.v) ob
 no:∀j,j<i->Jz (el tt j)=false
theorem u9(h:i<tt.length)(k:Jz (el tt i)=true):tt.any Jz=true:=List.any_eq_true.2 ⟨_,Q4 h,k⟩
theorem any_none(h:∀j,j<tt.length->Jz (el tt j)=false):tt.any Jz=false:=by
 cases e:tt.any Jz with
 |false=>rfl
 |true =>
  obtain⟨x,hx,k⟩:=List.any_eq_true.1 e
  obtain⟨j,hj,rfl⟩:=aL hx
  have:=h j hj
  rw[JK hj,k]at this;cases this
theorem QBf{l:List FL}{j:Nat}{v:Value}(h:i<l.length)(hv:[(el l i).1.v][j]?=some v):(l.map λe=>e.1.v)[i*1+j]?=some v:=by
 match j,hv with
 |0,hv=>rw[bM,eT,List.getElem?_map,List.getElem?_eq_getElem h,eH,<-JK h];exact hv
 |j+1,hv=>simp at hv
theorem Al[Inhabited α]{l:List α}{x:α}{j:Nat}(h:j<l.length):el (l++[x]) j=el l j:=by rw[JK h,JK (by rw[aC];omega),eb h]
theorem qU[Inhabited α](l:List α)(x:α):el (l++[x]) l.length=x:=by rw[JK we];simp
theorem MD{r:Sr}(hF:Fits F w)(hGl:JC F)(hy:Zm F y)(ht:H6 y)(htl:t.1.length<=1000000/\t.2.length<=1000000)(hx:VG F r l)(hc:DI r l):Qe Tryz.prog 128 [y.v,.agg #[tx t.1,tx t.2],r.v] w F (.int .i64 (BQ y t l)):=by
 refine QS.intro (G:=λF=>JC F/\Zm F y/\VG F r l) Tryz.func128 rfl wc rfl rfl hF (λF' hF'=>⟨hGl.le hF',hy.le hF',hx.le hF'⟩)<|wI<|Qo rfl (vs:=[_,_,_]) rfl (λb3=>Qo rfl (vs:=[_,_]) rfl (λb4=>wH rfl<|QG<|JO wK mixed y0<|QK (QJ (vs:=[_,_,_]) rfl XI .u1 .h3 rfl)<|QN rfl (λw F hF h9=>ZT (y:=y) hF h9.1 h9.2.1 ht) (λ_=>QK (QJ (vs:=[_,_]) rfl XD .here .h2 rfl)<|QN rfl (λw F hF h9=>GF hF h9.1.1 htl) (λ_=>QK (QJ (vs:=[_,_,_]) rfl XI .u1 .h3 rfl)<|QK (QD rfl)<|QN rfl (λw F hF ⟨⟨⟨hGl,hy,hx⟩,_⟩,_⟩=>Ys (y:=y) hF hGl hy hx hc) (λ_=>?_)))))
 refine Qm I (Qw ZG) Yf Hz I I (λb14=>?_) (λw h=>h.imp wm (λF h=>h.1.1.1))
 refine QN I (λw F hF h9=>YR hF (Qy.of (cs:=aT JY [_,_,_]) h9.2 I) wa) (λ_=>QK (QF I)<|Q6<|QC<|QY ?_)
 exact wL I I (rfl) wh
theorem SV(hF:Fits F w)(hGl:JC F)(h:ZH t.1 t.2=0)(hl:t.1.length<=1000000/\t.2.length<=1000000):Xp Tryz.prog 113 [.agg #[tx t.1,tx t.2]] w F (JF t):=qT hF hGl (VO h).1 (VO h).2.1 hl
theorem yM{r:Sr}{o:Int}(hF:Fits F w)(hGl:JC F)(hy:Zm F y)(ht:H6 y)(htl:t.1.length<=1000000/\t.2.length<=1000000)(hx:VG F r l)(hc:DI r l)(hok:Fx y t l o=0->FB y.rs (JF t) (lV l) o.toNat/\∀b∈(JX y.rs (JF t) (lV l) o.toNat),∀a∈b,Xj a 100000000):
  QS Tryz.prog 25 [y.v,.agg #[tx t.1,tx t.2],r.v,.int .i64 o] w F (λ(c:Sr×List Sr)=>.tuple #[c.1.v,.int .i64 (seR (Fx y t l o) (JX y.rs (JF t) (lV l) o.toNat)).1]) (λc F=>CO F c (seR (Fx y t l o) (JX y.rs (JF t) (lV l) o.toNat)).2):=by
 refine QS.intro (G:=λF=>JC F/\Zm F y/\VG F r l) Tryz.func25 rfl wc rfl rfl hF (λF' hF'=>⟨hGl.le hF',hy.le hF',hx.le hF'⟩)<|wI<|Qo rfl (vs:=[_,_,_]) rfl (λb4=>Qo rfl (vs:=[_,_]) rfl (λb5=>wF rfl<|wH rfl<|QG<|QG<|JO wK mixed y0<|QK (QJ (vs:=[_,_,_]) rfl XI .u1 .h3 rfl)<|QN rfl (λw F hF h9=>ZT (y:=y) hF h9.1 h9.2.1 ht) (λ_=>QK (QJ (vs:=[_,_]) rfl XD .here .h2 rfl)<|QN rfl (λw F hF h9=>GF hF h9.1.1 htl) (λ_=>QK (QJ (vs:=[_,_,_]) rfl XI .u1 .h3 rfl)<|QK (QD rfl)<|QN rfl (λw F hF ⟨⟨⟨hGl,hy,hx⟩,_⟩,_⟩=>Ys (y:=y) hF hGl hy hx hc) (λ_=>QK (QD rfl)<|QN rfl (λw F hF h9=>WC hF) (λ_=>?_))))))
 refine Qm I (Qw ZG) Yf Hz I I (λb25=>?_) (λw h=>h.imp wy (λF h=>h.1.1.1.1))
 refine QN I (λw F hF h9=>YR hF (Qy.of (cs:=aT JY [_,_,_,_]) h9.2 I) wa) (λ_=>QK (QF I)<|Q6<|QC<|wJ I<|QA (QZ I I I)<|QE<|QC ?_)
 refine QR I (λhc2=>?_) (λhc2=>?_)
 ·
  have h28:Fx y t l o≠0:=bne_iff_ne.1 hc2
  refine wJ I<|wF I<|wH I<|QY ?_
  exact JZ (((⟨none,0,0⟩,[]):Sr×List Sr)) I (wC I I) (by rw[cq h28];rfl) (λF h9=>by rw[cq h28];exact CO.nil F)
 ·
  have h28:Fx y t l o=0:=bne_eq_false_iff_eq.1 hc2
  have hok:=hok h28
  have hye:y.e=0:=Q7 h28 _ (.head _)
  have hts:=Q7 h28 (ZH t.1 t.2) (.tail _ (.head _))
  have hbx:KN y.nm.n l=0:=Q7 h28 _ (.tail _ (.tail _ (.head _)))
  have hor:=PZ (Q7 h28 (BR o) (.tail _ (.tail _ (.tail _ (.head _)))))
  have ho:=hy.ok hye
  have hn1:=ho.n1
  have hn0:=ho.n0
  have hrn:=ho.rn
  have hxl:=(Xv hbx).1
  have hrs:y.rs.length=y.nm.n:=by unfold Zr.rs;rw[aa,hy.Va,hrn]
  obtain⟨n,rfl⟩:∃n:Nat,o=(n:Int):=⟨o.toNat,O⟩
  rw[ah]at hok
  have htl2:(JX y.rs (JF t) (lV l) n).length=l.length:=by rw[ZS,KZ]
  refine QQ<|QC<|wI<|wH rfl<|QG<|QG<|JO wK mixed y0<|QK (QJ (vs:=[_,_,_]) rfl XI .u1 .h3 rfl)<|QN rfl (λw F hF h9=>Zi (y:=y) hF h9.1.1.1.1.1.1.1 h9.1.1.1.1.1.1.2.1 ht ho) (λc31=>QK (QJ (vs:=[_,_]) rfl XD .here .h2 rfl)<|QN rfl (λw F hF h9=>SV hF h9.1.1.1.1.1.1.1.1 hts htl) (λc33=>QK (QD rfl)<|QN rfl (λw F hF h9=>BJ hF h9.1.1.1.1.1.1.1.1.1 h9.1.1.1.1.1.1.1.1.2.2 hc (Xv hbx).2) (λc35=>Y5 _ (λw F hF ⟨⟨⟨⟨⟨⟨⟨⟨⟨⟨hGl,hy,hx⟩,_⟩,_⟩,_⟩,_⟩,hs25⟩,_⟩,h31⟩,h33⟩,h35⟩=>ar h35.nl (ar h31.Va (h31.pn ho.short))) (λhnn=>?_))))
  obtain⟨hn35,hn31,hp31⟩:=hnn
  rw[KZ]at hn35
  refine QK (QD I)<|QN I (λw F hF h9=>RV (n:=n) (x:=c33) hF h9.1.1.2 h9.1.2 h9.2 O O O O (λe he=>by have:=hp31 e he;omega) hok.1) (λc37=>Y5 _ (λw F hF h=>ar h.2.2.2.1 h.2.2.2.2.1) (λh37p=>?_))
  obtain⟨hq37,hl37⟩:=h37p
  have hn37:c37.1.n=l.length:=by rw[<-hl37,<-KZ l,<-ZS y.rs (JF t) (lV l) n,<-hq37,aa]
  refine QK (Qh I GP)<|QK (QD I)<|Q6<|QC<|QU<|JU (ι:=SeJ (JX y.rs (JF t) (lV l) n)) [(37,_),(38,_)] (λi=>[(11,i.v),(39,.int .i64 ((i.i:Nat):Int))]) (λi=>i.ob) (λi F=>∀j,j<i.i->Hy F (el i.rs j) (el (JX y.rs (JF t) (lV l) n) j)) (λi=>l.length - i.i) (⟨0,.slice none 0 0,[],[],aH _,rfl,.nil,λj h=>absurd h (bj _)⟩) wP wP (wu) (λ_ _ j h=>absurd h (bj _)) (λi=>?_)
  simp only[ab,af]
  have hi:=i.le
  refine wI<|QA (QZ I I I)<|wG<|QG ?_
  refine QR I (λhc2=>?_) (λhc2=>?_)
  ·
   have hlt:i.i<l.length:=by have:=wM hc2;omega
   have hil:=i.len
   refine XQ _ (λw F hF ⟨⟨⟨⟨⟨⟨⟨⟨⟨⟨⟨⟨hGl,hy,hx⟩,_⟩,_⟩,_⟩,_⟩,hs25⟩,_⟩,h31⟩,h33⟩,h35⟩,h37⟩,hS⟩=>(Vu h37.2.1 hq37 (show i.i<c37.2.length by omega)).nl) (λhnel=>?_)
   rw[YD _ _ _ _ (by rw[KZ];exact hlt)]at hnel
   refine QQ<|QC<|QG<|QU<|wI<|QA (Q9 (n:=c37.1.n) i.i (λF h9=>h9.1.2.1) rfl rfl GP XK O)<|QA (Ja (n:=c37.1.n) (vs:=[(el c37.2 i.i).1.v]) (i.i*1) (λF h9=>h9.1.2.1) O rfl XK I (λj v hv=>QBf (show i.i<c37.2.length by omega) hv))<|Qb WZ (λb13=>QO (vs:=[_]) I I I XK I .here .h1 wO<|wG<|wI<|QA (QH I Xg JE)<|QA (Qg I JE .here .h1)<|QI I (λw F hF ⟨⟨⟨⟨⟨⟨⟨⟨⟨⟨⟨⟨hGl,hy,hx⟩,_⟩,_⟩,_⟩,_⟩,hs25⟩,_⟩,h31⟩,h33⟩,h35⟩,h37⟩,hS⟩=>Ba (r:=(el c37.2 i.i).1) (l:=(el c37.2 i.i).2) (vs:=el (JX y.rs (JF t) (lV l) n) i.i) hF hGl (Vu h37.2.1 hq37 O) (by rw[hnel];omega) (hok.2 _ (Q4 (by rw[ZS,KZ];omega)))) (λc46=>wE I<|QA (QT I I)<|QA (QT I I)<|wF I<|wH I<|QG ?_))
   refine wJ I<|QA (QZ I I I)<|QE<|QC ?_
   refine QR I (λhc2=>?_) (λhc2=>?_)
   ·
    have hL:Jz (el (JX y.rs (JF t) (lV l) n) i.i)=true:=by
     cases e:Jz (el (JX y.rs (JF t) (lV l) n) i.i)with
     |true=>rfl
     |false=>rw[e]at hc2;cases hc2
    have hany:=u9 (show i.i<(JX y.rs (JF t) (lV l) n).length by omega) hL
    refine wJ I<|wF I<|wH I<|QY ?_
    repeat (first | refine JA ?_ | refine Q5 ?_)
    exact JZ (((⟨none,0,0⟩,[]):Sr×List Sr)) I (wC I I) (by rw[h28,Cs,ah,if_pos hany,hL];rfl) (λF h9=>by rw[h28,Cs,ah,if_pos hany,if_pos hany];exact CO.nil F)
   ·
    have hL:Jz (el (JX y.rs (JF t) (lV l) n) i.i)=false:=by
     cases e:Jz (el (JX y.rs (JF t) (lV l) n) i.i)with
     |false=>rfl
     |true=>rw[e]at hc2;cases hc2
    refine QQ<|QC<|QB<|wE I<|wE I<|Qa I (Qw Tj) XJ QDa I I (λb54=>?_)
    refine Yu (bs1:=[_]) (ob:=i.ob) (n:=i.i) (k:=1) (sz:=1) (news:=[c46.v]) I I Tj XJ QDa I QEu i.hr (Src.row (off:=0) wk (λj q hq=>by rw[aF];rw[aG];exact hq) rfl) O O (λv hv=>by rw[List.mem_singleton.1 hv];rfl) (λv55 ob55 hr55=>?_)
    refine wF I<|QE<|Qk<|QC<|QB<|QA (Qu I I O)<|wE I<|QE ?_
    exact Ql (⟨i.i+1,v55,ob55,i.rs++[c46],O,by rw[aC,i.len];rfl,by rw[au];exact hr55,λj hj=>by
        rcases Nat.lt_succ_iff_lt_or_eq.1 hj with h | rfl
        ·exact i.no j h
        ·exact hL⟩) (by show l.length - (i.i+1)<l.length - i.i;omega) wR ((.cons _ wK)) (λF ⟨⟨⟨⟨⟨⟨⟨⟨⟨⟨⟨⟨⟨⟨hGl,hy,hx⟩,_⟩,_⟩,_⟩,_⟩,hs25⟩,_⟩,h31⟩,h33⟩,h35⟩,h37⟩,hS⟩,h46⟩,hs54⟩=>⟨⟨⟨⟨⟨⟨⟨⟨⟨⟨⟨⟨hGl,hy,hx⟩,trivial⟩,trivial⟩,trivial⟩,trivial⟩,hs25⟩,trivial⟩,h31⟩,h33⟩,h35⟩,h37⟩,λj hj=>by
        rcases Nat.lt_succ_iff_lt_or_eq.1 hj with h | rfl
        ·show Hy F (el (i.rs++[c46]) j) _;rw[Al O];exact hS j h
        ·show Hy F (el (i.rs++[c46]) i.i) _;rw[show el (i.rs++[c46]) i.i=c46 by conv=>{ lhs;rw[<-hil] };exact qU _ _];rw[hL]at h46;exact h46⟩)
  ·
   have hge:i.i=l.length:=by have:=wN hc2;have:=i.le;omega
   have hno:(JX y.rs (JF t) (lV l) n).any Jz=false:=any_none λj hj=>i.no j O
   refine Qz ?_
   repeat (first | refine QW ?_ | refine QP wc ?_)
   refine QX<|QC<|QG<|QB ?_
   have hxl:=i.len
   obtain⟨⟨rq,rn,rc⟩,hv2,hrn,hrc,hfix⟩:=Qx.fix (w0:=w) (F0:=F) (bs1:=[]) (G:=_) i.hr
   dsimp only at hrn hrc hfix
   subst hrn
   refine YM hfix ?_
   rw[hv2]
   dsimp only[Sr.v]
   refine wE I<|wF I<|wH I<|QY ?_
   exact JZ (((⟨rq,i.i,rc⟩,i.rs):Sr×List Sr)) I (wC I I) (by rw[h28,Cs,ah,hno];rfl) (λF h9=>by rw[h28,Cs,ah,hno];show CO F (⟨rq,i.i,rc⟩,i.rs) (JX y.rs (JF t) (lV l) n);exact⟨h9.2,hxl,by show i.i=_;rw[htl2];exact hge,λj hj=>h9.1.2 j (by rw[htl2]at hj;omega)⟩)
structure NtJ(n:Nat) where
 i:Nat
 le:i<=n
def yS(xs:List (Fr×Rat)):List (List UInt8):=xs.map λp=>Je p.2
theorem yR(h:i<xs.length):(yS (xs.take (i+1))).map tx=(yS (xs.take i)).map tx++[tx (Je (el xs i).2)]:=by rw[XN h];simp[yS]
theorem dz(h:i<=xs.length):((yS (xs.take i)).map tx).length=i:=by simp[yS];omega
theorem pH{vs:List Value}{z v:Value}(h:vs.length=i)(hi:i<n):Kb (vs++Xb [z] (n - i)) (0+i*1) [v] ((vs++[v])++Xb [z] (n - (i+1))):=yr h hi
theorem AF{q:Option Addr}{c:Nat}(hF:Fits F w)(hGl:JC F)(hR:Qy F q n 4 (Ab xs))(hX:PM F xs)(hn:xs.length=n)(hl:n<=1000000)(hz:∀p∈xs,JL p.2<=100000000):
  QS Tryz.prog 94 [.slice q n c] w F (λ(c:Sr)=>c.v) (λc F=>Qy F c.q c.n 1 ((yS xs).map tx)/\c.n=n/\c.n<=c.cap):=by
 refine QS.intro (G:=λF=>JC F/\Qy F q n 4 (Ab xs)/\PM F xs) Tryz.func94 rfl wc rfl rfl hF (λF' hF'=>⟨hGl.le hF',hR.le hF',hX.le hF'⟩)<|wI<|wH rfl<|wJ rfl<|QA (Qh rfl XY)<|NI (n:=n) (bytes:=16) rfl rfl Yj XA Lz rfl QCn O O (λbk=>YM (E':=⟨w,F,[(bk,.cells ((yS (xs.take 0)).map tx++Xb [tx []] (n - 0)).toArray 22 (0,0))],λF=>JC F/\Qy F q n 4 (Ab xs)/\PM F xs⟩) wi<|wH rfl<|QG<|wJ rfl<|QA (Qh rfl XY)<|wE rfl<|wG<|QU<|JU (ι:=NtJ xs.length) [(3,_),(9,_),(10,_)] (λi=>[(11,.int .i64 ((i.i:Nat):Int))]) (λi=>[(bk,.cells ((yS (xs.take i.i)).map tx++Xb [tx []] (n - i.i)).toArray 22 (0,0))]) (λi F=>True) (λi=>xs.length - i.i) (⟨0,aH _⟩) wQ wO wK wh (λi=>?_))
 simp only[ab,af]
 have hi:=i.le
 refine wI<|QA (QZ I I I)<|wG<|QG ?_
 refine QR I (λhc2=>?_) (λhc2=>?_)
 ·
  have hlt:i.i<xs.length:=by have:=wM hc2;omega
  have hem:=Q4 hlt
  refine QQ<|QC<|QG<|QU<|wJ I<|QA (Q9 (n:=n) i.i (λF h9=>h9.1.2.1) rfl rfl XY QL O)<|QA (Ja (n:=n) (vs:=[.int .i64 (el xs i.i).1.n.s,.slice (el xs i.i).1.n.q (el xs i.i).1.n.n (el xs i.i).1.n.cap,.int .i64 (el xs i.i).1.d.s,.slice (el xs i.i).1.d.q (el xs i.i).1.d.n (el xs i.i).1.d.cap]) ((i.i)*4) (λF h9=>h9.1.2.1) O rfl QL I (λj v hv=>Jm (f:=(λe=>Ku e.1)) (l:=xs) (λ_=>rfl) O hv))<|Qb Ju (λb5=>wF I<|QO (vs:=[_,_,_,_]) I I I QL I .here .h4 wR<|wG<|QB<|wE I<|wE I<|QA (QJ (vs:=[_,_,_,_]) I QL .here .h4 rfl)<|QI I (λw F hF h9=>Pf hF h9.1.1 (h9.1.2.2 _ hem) (hz _ hem)) (λ_=>QA (JG (i:=i.i) rfl rfl Yj XA O)<|QO (vs:=[tx (Je (el xs i.i).2)]) I I I XA I .u1 (pH (dz O) O) wO<|QE<|Qk<|QC<|QB ?_))
  refine QA (Qu I I O)<|wE I<|QE ?_
  exact Ql (⟨i.i+1,hlt⟩) (by show xs.length - (i.i+1)<xs.length - i.i;omega) wR ((by rw[yR hlt];exact .cons _ wK)) (λF h=>⟨h.1.1,trivial⟩)
 ·
  have hge:i.i=xs.length:=by have:=wN hc2;have:=i.le;omega
  refine Qz ?_
  repeat (first | refine QW ?_ | refine QP wc ?_)
  refine QX<|QC<|QG<|QB ?_
  have hzz:Xb [tx []] (n - i.i)=[]:=by rw[show n - i.i=0 from by omega];rfl
  rw[hzz,bw,hge,aR]
  refine VR (b:=bk) .here<|wE I<|wH I<|QY ?_
  exact QV ((⟨some ⟨bk,0,none⟩,n,n⟩:Sr)) I (wB I) (rfl) (λF h9=>⟨Qy.of h9.2 (by simp[yS];omega),rfl,ag _⟩)
def G2(rs:List (List Tm))(bs:List (Rat×Rat)):List Rat:=rs.map λp=>ji (J8 bs p)
def dQ(e:Int)(xs:List Rat):Int×List Rat:=if e≠0 then(e,[])else(if xs.any Jj=true then 4 else 0,if xs.any Jj=true then[]else xs)
theorem IQ{e:Int}{xs:List Rat}(h:e≠0):dQ e xs=(e,[]):=by unfold dQ;rw[if_pos h]
theorem S8(xs:List Rat):dQ 0 xs=(if xs.any Jj=true then 4 else 0,if xs.any Jj=true then[]else xs):=rfl
def gX(F:Gs)(c:Sr)(xs:List Rat):Prop:=Qy F c.q c.n 1 ((xs.map Je).map tx)/\c.n=xs.length/\c.n<=c.cap
theorem gX.nil(F:Gs):gX F ⟨none,0,0⟩ []:=⟨Qy.nil F none 1,rfl,ag _⟩
theorem pA{l:List Rat}(h:xs.map (·.2)=l):yS xs=l.map Je:=by rw[<-h];simp[yS]
theorem zH{l:List Rat}(h:xs.map (·.2)=l):(xs.any λp=>Jj p.2)=l.any Jj:=by rw[<-h,eM,eC]
structure SdJ(vs:List Rat) where
 i:Nat
 v:Value
 ob:List (Nat×Obj)
 xs:List (Fr×Rat)
 le:i<=vs.length
 hr:Qx 135 4 v i (Ab xs) ob
 hx:xs.map (·.2)=vs.take i
theorem SdJ.len{vs:List Rat}(s:SdJ vs):s.xs.length=s.i:=by
 have h:=congrArg bD s.hx
 have h2:=s.le
 rw[aa,bU]at h;omega
theorem jt(xs:List (Fr×Rat))(c:Fr)(x:Rat):Ab (xs++[(c,x)])=Ab xs++Ku c:=by unfold Ab;rw[eF];simp
theorem PM.snoc{c:Fr}{x:Rat}(h:PM F xs)(k:JM F c x):PM F (xs++[(c,x)]):=λp hp=>by
 rcases List.mem_append.1 hp with hp | hp
 ·exact h p hp
 ·rw[List.mem_singleton.1 hp];exact k
def SdJ.next{vs:List Rat}(s:SdJ vs)(h:s.i<vs.length){v:Value}{ob:List (Nat×Obj)}(c:Fr)(x:Rat)(hr:Qx 135 4 v (s.i+1) (Ab s.xs++Ku c) ob)(hx:x=el vs s.i):SdJ vs:=⟨s.i+1,v,ob,s.xs++[(c,x)],h,by rw[jt];exact hr,by rw[au,s.hx,XN h,hx];rfl⟩
theorem zF(c:Fr):∀v∈Ku c,v.oneCell'=true:=λv hv=>by
 simp only[Ku,bh,bp,or_false]at hv
 rcases hv with rfl | rfl | rfl | rfl<;>rfl
theorem dt{rs:List (List Tm)}(h:i<rs.length):el (G2 rs bs) i=ji (J8 bs (el rs i)):=by rw[JK (by simp[G2];exact h),JK h];simp[G2]
theorem yE(rs:List (List Tm))(bs:List (Rat×Rat)):(G2 rs bs).length=rs.length:=by simp[G2]
structure QGo(rs:List (List Tm))(bs:List (Rat×Rat)):Prop where
 ev:∀i,i<rs.length->CY bs (el rs i)
 sz:∀i,i<rs.length->Xj (J8 bs (el rs i)) 100000000
 mg:∀x∈G2 rs bs,JL x<=100000000
theorem yD{t:List UInt8×List UInt8}{r:Sr}(hF:Fits F w)(hGl:JC F)(hy:Zm F y)(ht:H6 y)(htl:t.1.length<=1000000/\t.2.length<=1000000)(hx:VG F r l)(hc:DI r l)(hok:BQ y t l=0->QGo y.rs (JF t::lV l)):
  QS Tryz.prog 41 [y.v,.agg #[tx t.1,tx t.2],r.v] w F (λ(c:Sr)=>.tuple #[c.v,.int .i64 (dQ (BQ y t l) (G2 y.rs (JF t::lV l))).1]) (λc F=>gX F c (dQ (BQ y t l) (G2 y.rs (JF t::lV l))).2):=by
 refine QS.intro (G:=λF=>JC F/\Zm F y/\VG F r l) Tryz.func41 rfl wc rfl rfl hF (λF' hF'=>⟨hGl.le hF',hy.le hF',hx.le hF'⟩)<|wI<|Qo rfl (vs:=[_,_,_]) rfl (λb3=>Qo rfl (vs:=[_,_]) rfl (λb4=>wF rfl<|wH rfl<|QG<|wI<|QA (QJ (vs:=[_,_,_]) rfl XI .u1 .h3 rfl)<|QA (QJ (vs:=[_,_]) rfl XD .here .h2 rfl)<|wE rfl<|QI rfl (λw F hF h9=>MD (y:=y) hF h9.1 h9.2.1 ht htl h9.2.2 hc) (λ_=>wH rfl<|wJ rfl<|QA (QZ rfl rfl rfl)<|QE<|QC ?_)))
 refine QR I (λhc2=>?_) (λhc2=>?_)
 ·
  have h17:BQ y t l≠0:=bne_iff_ne.1 hc2
  refine wJ I<|wF I<|wH I<|QY ?_
  exact JZ ((⟨none,0,0⟩:Sr)) I (wC I I) (by rw[IQ h17]) (λF h9=>by rw[IQ h17];exact gX.nil F)
 ·
  have h17:BQ y t l=0:=bne_eq_false_iff_eq.1 hc2
  have hok:=hok h17
  have hye:y.e=0:=Q7 h17 _ (.head _)
  have hts:=Q7 h17 (ZH t.1 t.2) (.tail _ (.head _))
  have hbx:KN y.nm.n l=0:=Q7 h17 _ (.tail _ (.tail _ (.head _)))
  have ho:=hy.ok hye
  have hn1:=ho.n1
  have hn0:=ho.n0
  have hrn:=ho.rn
  have hxl:=(Xv hbx).1
  have hrs:y.rs.length=y.nm.n:=by unfold Zr.rs;rw[aa,hy.Va,hrn]
  have hsl:(G2 y.rs (JF t::lV l)).length=y.nm.n:=by rw[yE,hrs]
  refine QQ<|QC<|wI<|wH rfl<|QG<|wI<|QA (QJ (vs:=[_,_,_]) rfl XI .u1 .h3 rfl)<|QI rfl (λw F hF h9=>Zi (y:=y) hF h9.1.1 h9.1.2.1 ht ho) (λc20=>JQ _ (λw F hF ⟨⟨⟨hGl,hy,hx⟩,_⟩,h20⟩=>ar h20.Va (h20.pn ho.short)) (λhnn=>?_))
  obtain⟨hn20,hp20⟩:=hnn
  refine QA (Zj rfl)<|QA (QH rfl B5 Yb)<|QA (Z2 (c:=#[c20.rt.v,c20.st.v]) (T':=188) rfl Yb (λF h9=>h9.2.BA) rfl)<|QA (Qh rfl Yk)<|wE rfl<|wG<|QU<|JU (ι:=SdJ (G2 y.rs (JF t::lV l))) [(2,_),(4,_),(23,_),(24,_)] (λi=>[(9,i.v),(25,.int .i64 ((i.i:Nat):Int))]) (λi=>(b4,.cells #[tx t.1,tx t.2] 40 (0,0))::i.ob) (λi F=>PM F i.xs) (λi=>c20.rt.n - i.i) (⟨0,.slice none 0 0,[],[],aH _,.nil,rfl⟩) wR wP (wv) (λ_ _ p h=>by cases h) (λi=>?_)
  simp only[ab,af]
  have hi:=i.le
  refine wI<|QA (QZ I I I)<|wG<|QG ?_
  refine QR I (λhc2=>?_) (λhc2=>?_)
  ·
   have hlt:i.i<c20.rt.n:=by have:=wM hc2;omega
   have hlr:i.i<y.rs.length:=O
   refine XQ _ (λw F hF ⟨⟨⟨⟨hGl,hy,hx⟩,_⟩,h20⟩,hS⟩=>ar (h20.at (show i.i<c20.rt.n by omega)).2 h20.len) (λhpp=>?_)
   obtain⟨heq,hpl⟩:=hpp
   refine QQ<|QC<|QG<|QU<|wI<|QA (Q9 (n:=c20.rt.n) i.i (λF h9=>h9.1.2.row) rfl rfl Yk Ya O)<|QA (Jd (n:=c20.rt.n) ((i.i)*1) (λF h9=>h9.1.2.row) O rfl Ya (X8 (f:=λe:Vn=>e.1.v) (l:=c20.ps) O))<|wH I<|QB<|wE I<|wE I<|QA (QJ (vs:=[_,_]) I XD .here .h2 rfl)<|QI I (λw F hF h9=>SV hF h9.1.1.1.1 hts htl) (λc32=>wE I<|QI I (λw F hF h9=>BJ hF h9.1.1.1.1.1 h9.1.1.1.1.2.2 hc (Xv hbx).2) (λc34=>JQ _ (λw F hF h9=>h9.2.nl) (λhn34=>?_)))
   rw[KZ]at hn34
   refine QI I (λw F hF h9=>EJ (pa:=el c20.ps i.i) (x:=c32) (t:=JF t) hF (h9.1.1.1.2.at O).1 h9.1.2 h9.2 O (by have:=hp20 _ (Q4 (show i.i<c20.ps.length by omega));omega) (by rw[heq];exact hok.ev _ hlr)) (λc35=>?_)
   rw[heq]
   refine QI I (λw F hF h9=>vR hF h9.2 (hok.sz _ hlr)) (λc36=>Qa I (Qw XY) QL Ju I I (λb37=>?_))
   refine Yu (bs1:=[_]) (ob:=i.ob) (n:=i.i) (k:=1) (sz:=4) (news:=(Ku c36)) I I XY QL Ju I uy i.hr (Src.row (off:=0) wk (λj q hq=>by rw[aF];rw[aG];exact hq) rfl) O O (zF _) (λv38 ob38 hr38=>?_)
   refine wF I<|QE<|Qk<|QC<|QB<|QA (Qu I I O)<|wE I<|QE ?_
   exact Ql (i.next O c36 _ hr38 (dt hlr).symm) (by show c20.rt.n - (i.i+1)<c20.rt.n - i.i;omega) wT wK (λF ⟨⟨⟨⟨⟨⟨⟨⟨⟨hGl,hy,hx⟩,_⟩,h20⟩,hS⟩,h32⟩,h34⟩,h35⟩,h36⟩,hs37⟩=>⟨⟨⟨⟨hGl,hy,hx⟩,trivial⟩,h20⟩,hS.snoc h36⟩)
  ·
   have hge:i.i=(G2 y.rs (JF t::lV l)).length:=by have:=wN hc2;have:=i.le;omega
   have hzx:∀p∈i.xs,JL p.2<=100000000:=λp hp=>hok.mg _ (by have e:=i.hx;rw[hge,aR]at e;rw[<-e];exact aq hp)
   have hxe:i.xs.map (·.2)=(G2 y.rs (JF t::lV l)):=by have e:=i.hx;rw[hge,aR]at e;exact e
   have hxl2:=i.len
   have hany:=zH hxe
   refine Qz ?_
   repeat (first | refine QW ?_ | refine QP wc ?_)
   refine QX<|QC<|QG<|QG<|QB ?_
   have hxl:=i.len
   obtain⟨⟨rq,rn,rc⟩,hv2,hrn,hrc,hfix⟩:=Qx.fix (w0:=w) (F0:=F) (bs1:=[_]) (G:=_) i.hr
   dsimp only at hrn hrc hfix
   subst hrn
   refine YM hfix ?_
   rw[hv2]
   dsimp only[Sr.v]
   refine wE I<|QI I (λw F hF h9=>qd (f:=93) (c1:=[]) (c2:=[]) (p:=λe:Fr×Rat=>Jj e.2) (G0:=λF=>JC F/\PM F i.xs) hF (λF F' hle h=>⟨h.1.le hle,h.2.le hle⟩) ⟨h9.1.1.1.1.1,h9.1.2⟩ h9.2 hxl2 O (λe he w F hF hG=>Da hF hG.1 (hG.2 e he) (hzx e he))) (λ_=>QE<|QC ?_)
   refine QR I (λhc2=>?_) (λhc2=>?_)
   ·
    have hL:(G2 y.rs (JF t::lV l)).any Jj=true:=by rw[<-hany];exact hc2
    refine wI<|wF I<|wH I<|QY ?_
    exact JZ ((⟨none,0,0⟩:Sr)) I (wC I I) (by rw[h17,S8,if_pos hL]) (λF h9=>by rw[h17,S8,if_pos hL,if_pos hL];exact gX.nil F)
   ·
    have hL:(G2 y.rs (JF t::lV l)).any Jj=false:=by rw[<-hany];exact hc2
    refine QQ<|QC<|wJ I<|QI I (λw F hF h9=>AF hF h9.1.1.1.1.1.1 h9.1.2 h9.1.1.2 hxl2 O hzx) (λc43=>wF I<|wH I<|QY ?_)
    exact JZ (c43) rfl (wC I I) (by rw[h17,S8,hL]<;>rfl) (λF h9=>by rw[h17,S8,hL];show gX F c43 (G2 y.rs (JF t::lV l));exact⟨by rw[<-pA hxe];exact h9.2.1,by rw[h9.2.2.1];exact hge,h9.2.2.2⟩)
def Ov(rs:List (List Tm))(bs:List (Rat×Rat))(i:Nat):Nat->Rat
 |0=>((0:Int):Rat)
 |v+1=>Ov rs bs i v+ji (J8 bs (J6 (Za (v+1) (el rs i))))
def Hu(rs:List (List Tm))(bs:List (Rat×Rat))(n:Nat):Nat->Rat
 |0=>((0:Int):Rat)
 |i+1=>Pd (Hu rs bs n i) (Ov rs bs i n)
structure QFA(rs:List (List Tm))(bs:List (Rat×Rat))(n:Nat):Prop where
 pw:∀p∈rs,∀t∈p,PW t.2/\n<t.2.length
 lp:∀p∈rs,p.length<=100000
 sp:∀p∈rs,∀t∈p,JL t.1<=20000000
 der:∀p∈rs,∀v,v<n->KI (Za (v+1) p)<=40000000
 ln:∀p∈rs,∀v,v<n->(J6 (Za (v+1) p)).length<=100000
 ev:∀p∈rs,∀v,v<n->CY bs (J6 (Za (v+1) p))
 sz:∀p∈rs,∀v,v<n->Xj (J8 bs (J6 (Za (v+1) p))) 100000000
 mg:∀p∈rs,∀v,v<n->JL (ji (J8 bs (J6 (Za (v+1) p))))<=100000000
 sm:∀i,i<rs.length->∀k,k<=n->JL (Ov rs bs i k)<=100000000
 mo:∀i,i<=rs.length->JL (Hu rs bs n i)<=100000000
structure FrJ(n:Nat) where
 i:Nat
 c:Fr
 le:i<=n
def lpR(e:Int)(x:Rat):Int×List UInt8:=if e≠0 then(e,[])else(if Jj x=true then 4 else 0,if Jj x=true then[]else Je x)
theorem QER{e:Int}{x:Rat}(h:e≠0):lpR e x=(e,[]):=by unfold lpR;rw[if_pos h]
theorem QAO(x:Rat):lpR 0 x=(if Jj x=true then 4 else 0,if Jj x=true then[]else Je x):=rfl
theorem Ij{t:List UInt8×List UInt8}{r:Sr}(hF:Fits F w)(hGl:JC F)(hy:Zm F y)(ht:H6 y)(htl:t.1.length<=1000000/\t.2.length<=1000000)(hx:VG F r l)(hc:DI r l)(hok:BQ y t l=0->QFA y.rs (JF t::lV l) l.length):
  Qe Tryz.prog 42 [y.v,.agg #[tx t.1,tx t.2],r.v] w F (.tuple #[tx (lpR (BQ y t l) (Hu y.rs (JF t::lV l) l.length y.rs.length)).2,.int .i64 (lpR (BQ y t l) (Hu y.rs (JF t::lV l) l.length y.rs.length)).1]):=by
 have hxr:=hx.len
 refine QS.intro (G:=λF=>JC F/\Zm F y/\VG F r l) Tryz.func42 rfl wc rfl rfl hF (λF' hF'=>⟨hGl.le hF',hy.le hF',hx.le hF'⟩)<|wI<|Qo rfl (vs:=[_,_,_]) rfl (λb3=>Qo rfl (vs:=[_,_]) rfl (λb4=>wF rfl<|wH rfl<|QG<|wI<|QA (QJ (vs:=[_,_,_]) rfl XI .u1 .h3 rfl)<|QA (QJ (vs:=[_,_]) rfl XD .here .h2 rfl)<|wE rfl<|QI rfl (λw F hF h9=>MD (y:=y) hF h9.1 h9.2.1 ht htl h9.2.2 hc) (λ_=>wH rfl<|wJ rfl<|QA (QZ rfl rfl rfl)<|QE<|QC ?_)))
 refine QR I (λhc2=>?_) (λhc2=>?_)
 ·
  have SH:BQ y t l≠0:=bne_iff_ne.1 hc2
  refine wJ I<|wF I<|wH I<|QY ?_
  exact JZ (()) I (wC I I) (by rw[QER SH]) wh
 ·
  have SH:BQ y t l=0:=bne_eq_false_iff_eq.1 hc2
  have hok:=hok SH
  have hye:y.e=0:=Q7 SH _ (.head _)
  have hts:=Q7 SH (ZH t.1 t.2) (.tail _ (.head _))
  have hbx:KN y.nm.n l=0:=Q7 SH _ (.tail _ (.tail _ (.head _)))
  have ho:=hy.ok hye
  have hn1:=ho.n1
  have hn0:=ho.n0
  have hrn:=ho.rn
  have hxl:=(Xv hbx).1
  have hrs:y.rs.length=y.nm.n:=by unfold Zr.rs;rw[aa,hy.Va,hrn]
  refine QQ<|QC<|wI<|QI rfl (λw F hF h9=>TO (n:=0) hF wa wa) (λc21=>Qb Ju (λb9=>QO (vs:=[_,_,_,_]) rfl rfl rfl QL rfl .here .h4 wR<|wG<|QG<|wI<|QA (QJ (vs:=[_,_,_]) rfl XI .u2 .h3 rfl)<|QI rfl (λw F hF h9=>Zi (y:=y) hF h9.1.1.1 h9.1.1.2.1 ht ho) (λc23=>JQ _ (λw F hF ⟨⟨⟨⟨hGl,hy,hx⟩,_⟩,h21⟩,h23⟩=>ar h23.Va (h23.pn ho.short)) (λhnn=>?_))))
  obtain⟨hn23,hp23⟩:=hnn
  refine QA (Zj I)<|QA (QH I B5 Yb)<|QA (Z2 (c:=#[c23.rt.v,c23.st.v]) (T':=188) rfl Yb (λF h9=>h9.2.BA) rfl)<|QA (Qh I Yk)<|wE I<|wG<|QU<|JU (ι:=FrJ y.rs.length) [(2,_),(4,_),(9,_),(26,_),(27,_)] (λi=>[(28,.int .i64 ((i.i:Nat):Int))]) (λi=>[(b9,.cells (Ku i.c).toArray 135 (0,0)),(b4,.cells #[tx t.1,tx t.2] 40 (0,0))]) (λi F=>JM F i.c (Hu y.rs (JF t::lV l) l.length i.i)) (λi=>y.rs.length - i.i) (⟨0,c21,aH _⟩) wS wO (wy) (λ_ h=>h.1.2) (λi=>?_)
  simp only[ab,af]
  have hi:=i.le
  refine wI<|QA (QZ I I I)<|wG<|QG ?_
  refine QR I (λhc2=>?_) (λhc2=>?_)
  ·
   have hlt:i.i<c23.rt.n:=by have:=wM hc2;omega
   have hlr:i.i<y.rs.length:=O
   have hem:=Q4 hlr
   refine XQ _ (λw F hF ⟨⟨⟨⟨⟨hGl,hy,hx⟩,_⟩,h21⟩,h23⟩,hS⟩=>ar (h23.at (show i.i<c23.rt.n by omega)).2 h23.len) (λhpp=>?_)
   obtain⟨heq,hpl⟩:=hpp
   refine QQ<|QC<|QG<|QU<|wI<|QA (Q9 (n:=c23.rt.n) i.i (λF h9=>h9.1.2.row) rfl rfl Yk Ya O)<|QA (Jd (n:=c23.rt.n) ((i.i)*1) (λF h9=>h9.1.2.row) O rfl Ya (X8 (f:=λe:Vn=>e.1.v) (l:=c23.ps) O))<|wH I<|wI<|QI I (λw F hF h9=>TO (n:=0) hF wa wa) (λc32=>Qb Ju (λb12=>QO (vs:=[_,_,_,_]) I I I QL I .here .h4 wR<|wG<|QG<|wJ I<|QA (Qh I Xq)<|wE I<|QE ?_))
   refine QC<|QU<|JU (ι:=FrJ l.length) [(2,_),(4,_),(9,_),(11,_),(12,_),(26,_),(27,_),(28,_),(34,_)] (λi2=>[(35,.int .i64 ((i2.i:Nat):Int))]) (λi2=>[(b12,.cells (Ku i2.c).toArray 135 (0,0)),(b9,.cells (Ku i.c).toArray 135 (0,0)),(b4,.cells #[tx t.1,tx t.2] 40 (0,0))]) (λi2 F=>JM F i2.c (Ov y.rs (JF t::lV l) i.i i2.i)) (λi2=>l.length - i2.i) (⟨0,c32,aH _⟩) wW wO wK wk (λi2=>?_)
   simp only[ab,af]
   have hi2:=i2.le
   refine wI<|QA (QZ I I I)<|wG<|QG ?_
   refine QR I (λhc2=>?_) (λhc2=>?_)
   ·
    have hlt2:i2.i<l.length:=by have:=wM hc2;omega
    refine QQ<|QC<|QG<|QU<|wJ I<|wH I<|Jt 12 wK mixed y0 y0 ?_
    simp only[aO,aV,aP,aX]
    refine QK (QJ (vs:=[_,_,_,_]) I QL .here .h4 rfl)<|QK (QD I)<|QK (QD I)<|QK (Qu I I O) ?_
    rw[show(((i2.i:Nat):Int)+1)=((i2.i+1:Nat):Int)from rfl]
    refine QN I (λw F hF h9=>Og (p:=el c23.ps i.i) (v:=i2.i+1) hF h9.1.1.1.1.1.1.1 (h9.1.1.1.2.at O).1 (Ch (Q:=λt=>PW t.2/\i2.i+1<t.2.length) heq (λt htt=>⟨(hok.pw _ hem t htt).1,by have:=(hok.pw _ hem t htt).2;omega⟩)) (by have h1:=congrArg bD heq;rw[Yx]at h1;have:=hok.lp _ hem;omega) (Ch (Q:=λt=>JL t.1<=20000000) heq (hok.sp _ hem)) (by rw[heq];exact hok.der _ hem _ hlt2)) (λc42=>Y5 _ (λw F hF h=>ar h.2.eqT (ar h.2.2.2.2.2 h.2.len)) (λe42=>?_))
    obtain⟨e42,l42,m42⟩:=e42
    rw[heq]at e42 m42
    have n42:=hok.ln _ hem _ hlt2
    refine QK (QJ (vs:=[_,_]) I XD .u2 .h2 rfl)<|QN I (λw F hF h9=>SV hF h9.1.1.1.1.1.1.1.1 hts htl) (λc44=>QK (QD I)<|QN I (λw F hF h9=>BJ hF h9.1.1.1.1.1.1.1.1.1 h9.1.1.1.1.1.1.1.1.2.2 hc (Xv hbx).2) (λc46=>Y5 _ (λw F hF h9=>h9.2.nl) (λhn46=>?_)))
    rw[KZ]at hn46
    refine QN I (λw F hF h9=>EJ (pa:=c42) (x:=c44) (t:=JF t) hF h9.1.1.2.self h9.1.2 h9.2 O O (by rw[e42];exact hok.ev _ hem _ hlt2)) (λc47=>?_)
    rw[e42]
    refine QN I (λw F hF h9=>vR hF h9.2 (hok.sz _ hem _ hlt2)) (λc48=>QN I (λw F hF h9=>D2 (x:=i2.c) (y:=c48) (r:=Ov y.rs (JF t::lV l) i.i i2.i) (s:=ji (J8 (JF t::lV l) (J6 (Za (i2.i+1) (el y.rs i.i))))) hF h9.1.1.1.1.1.2 h9.2 (hok.sm _ hlr _ O) (hok.mg _ hem _ hlt2)) (λc49=>Ze<|QO (vs:=[_,_,_,_]) I I I QL I .here .h4 wR<|QE<|Qk<|QC<|QB<|QA (Qu I I O)<|wE I<|QE ?_))
    exact Ql (⟨i2.i+1,c49,hlt2⟩) (by show l.length - (i2.i+1)<l.length - i2.i;omega) wX wK (λF ⟨⟨⟨⟨⟨⟨⟨⟨⟨⟨⟨⟨⟨hGl,hy,hx⟩,_⟩,h21⟩,h23⟩,hS⟩,h32⟩,hS2⟩,h42⟩,h44⟩,h46⟩,h47⟩,h48⟩,h49⟩=>⟨⟨⟨⟨⟨⟨⟨hGl,hy,hx⟩,trivial⟩,h21⟩,h23⟩,hS⟩,h32⟩,h49⟩)
   ·
    have hge2:i2.i=l.length:=by have:=wN hc2;have:=i2.le;omega
    refine Qz ?_
    repeat (first | refine QW ?_ | refine QP wc ?_)
    refine QX<|QC<|QB<|QA (QJ (vs:=[_,_,_,_]) I QL .u1 .h4 rfl)<|QA (QJ (vs:=[_,_,_,_]) I QL .here .h4 rfl)<|Qa I (Qw XY) QL Ju I I (λb53=>QI I (λw F hF h9=>Xo (x:=i.c) (r:=Hu y.rs (JF t::lV l) l.length i.i) (ps:=[(i2.c,Ov y.rs (JF t::lV l) i.i i2.i)]) (n:=1) hF h9.1.1.1.2 (Qy.of h9.2 I) (Kt h9.1.2) rfl wa ⟨hok.mo _ O,Kt (hok.sm _ hlr _ O)⟩) (λc54=>QO (vs:=[_,_,_,_]) I I I QL I .u1 .h4 wR<|QE<|Qk<|QC<|QB<|QA (Qu I I O)<|wE I<|QE ?_))
    exact Ql (⟨i.i+1,c54,hlr⟩) (by show y.rs.length - (i.i+1)<y.rs.length - i.i;omega) wT ((.cons _ wK)) (λF ⟨⟨⟨⟨⟨⟨⟨⟨⟨hGl,hy,hx⟩,_⟩,h21⟩,h23⟩,hS⟩,h32⟩,hS2⟩,hs53⟩,h54⟩=>⟨⟨⟨⟨⟨hGl,hy,hx⟩,trivial⟩,h21⟩,h23⟩,by show JM F c54 (Pd (Hu y.rs (JF t::lV l) l.length i.i) (Ov y.rs (JF t::lV l) i.i l.length));have e:=h54;rw[hge2]at e;exact e⟩)
  ·
   have hge:i.i=y.rs.length:=by have:=wN hc2;have:=i.le;omega
   refine Qz ?_
   repeat (first | refine QW ?_ | refine QP wc ?_)
   refine QX<|QC<|QG<|wI<|QA (QJ (vs:=[_,_,_,_]) I QL .here .h4 rfl)<|QI I (λw F hF h9=>Da hF h9.1.1.1.1.1 (show JM F i.c (Hu y.rs (JF t::lV l) l.length y.rs.length) by have e:=h9.2;rw[hge]at e;exact e) (hok.mo _ (ag _))) (λ_=>QE<|QC ?_)
   refine QR I (λhc2=>?_) (λhc2=>?_)
   ·
    refine wI<|wF I<|wH I<|QY ?_
    exact JZ (()) I (wC I I) (by rw[SH,QAO,if_pos hc2,if_pos hc2]<;>rfl) wh
   ·
    refine QQ<|QC<|wI<|QA (QJ (vs:=[_,_,_,_]) I QL .here .h4 rfl)<|QI I (λw F hF h9=>Pf hF h9.1.1.1.1.1.1 (show JM F i.c (Hu y.rs (JF t::lV l) l.length y.rs.length) by have e:=h9.1.2;rw[hge]at e;exact e) (hok.mo _ (ag _))) (λ_=>wF I<|wH I<|QY ?_)
    exact JZ (()) I (wC I I) (by rw[SH,QAO,hc2]<;>rfl) wh
structure W2 where
 e:List UInt8
 w:Sr
 wl:List (List UInt8×List UInt8)
 l:Sr
 ll:List (List UInt8×List UInt8)
variable{tb:List W2}
instance :Inhabited W2:=⟨⟨[],default,[],default,[]⟩⟩
def cG(b:W2):List Value:=[tx b.e,.slice b.w.q b.w.n b.w.cap,.slice b.l.q b.l.n b.l.cap]
theorem qk(b:W2):(cG b).length=3:=rfl
structure Le(F:Gs)(r:Sr)(tb:List W2):Prop where
 row:Qy F r.q r.n 3 (tb.flatMap cG)
 len:tb.length=r.n
 bx:∀b∈tb,VG F b.w b.wl/\VG F b.l b.ll
theorem Le.le{r:Sr}(h:Le F r tb)(k:Gs.le F F'):Le F' r tb:=⟨h.row.le k,h.len,λb hb=>⟨(h.bx b hb).1.le k,(h.bx b hb).2.le k⟩⟩
structure QCO(r:Sr)(tb:List W2):Prop where
 n:r.n<=1000000
 t:r.n>1000\/∀b∈tb,b.e.length<=1000000/\DI b.w b.wl/\DI b.l b.ll
def Hv(tb:List W2)(i:Nat):Rat:=if i=0 then((0:Int):Rat)else Qs (el tb (i - 1)).e
theorem SC(tb:List W2)(i:Nat):Hv tb (i+1)=Qs (el tb i).e:=by unfold Hv;rw[if_neg O,eI]
def dG(n:Nat)(tb:List W2)(i:Nat):Int:=Qn [PC (Hv tb i) (el tb i).e,KN n (el tb i).wl,KN n (el tb i).ll]
def EK(n:Nat)(tb:List W2):Int:=if tb.length>1000 then 5 else Qn ((aE tb.length).map (dG n tb))
structure QGm(n:Nat)(tb:List W2) extends Zv (aE tb.length) (dG n tb) where
 c:Fr
 ok:JL (Hv tb i)<=2400
structure QGk(n:Nat)(tb:List W2):Prop where
 len:tb.length<=1000
 e:∀i,i<tb.length->Jw (el tb i).e=0
 la:∀i,i<tb.length->Wm (Hv tb i) (Qs (el tb i).e)=0
 w:∀i,i<tb.length->KN n (el tb i).wl=0
 l:∀i,i<tb.length->KN n (el tb i).ll=0
theorem dY(h:EK n tb=0):QGk n tb:=by
 unfold EK at h
 by_cases g:tb.length>1000
 ·rw[if_pos g]at h;cases h
 rw[if_neg g]at h
 have hz:∀i,i<tb.length->dG n tb i=0:=λi hi=>Q7 h _ (aq (List.mem_range.2 hi))
 have h3:=λi hi=>Ew (hz i hi)
 exact⟨O,λi hi=>(Hj (h3 i hi).1).1,λi hi=>(Hj (h3 i hi).1).2,λi hi=>(h3 i hi).2.1,λi hi=>(h3 i hi).2.2⟩
theorem LV{r:Sr}(hF:Fits F w)(hGl:JC F)(hy:Zm F y)(hx:Le F r tb)(hc:QCO r tb):Qe Tryz.prog 144 [y.v,r.v] w F (.int .i64 (EK y.nm.n tb)):=by
 have hxr:=hx.len
 have hcn:=hc.n
 refine QS.intro (G:=λF=>JC F/\Zm F y/\Le F r tb) Tryz.func144 rfl wc rfl rfl hF (λF' hF'=>⟨hGl.le hF',hy.le hF',hx.le hF'⟩)<|wI<|Qo rfl (vs:=[_,_,_]) rfl (λb2=>wH rfl<|QG<|wJ rfl<|QA (Qh rfl EY)<|QA (QZ rfl rfl rfl)<|QE<|QC ?_)
 refine QR I (λhc2=>?_) (λhc2=>?_)
 ·
  have h12:=wM hc2
  refine wI<|wH I<|QY ?_
  exact wL I I (congrArg (ax .i64) (by unfold EK;rw[if_pos O])) wh
 ·
  have h12:=wN hc2
  have hct:∀b∈tb,b.e.length<=1000000/\DI b.w b.wl/\DI b.l b.ll:=hc.t.resolve_left O
  refine QQ<|QC<|wI<|QI I (λw F hF h9=>TO (n:=0) hF wa wa) (λc13=>Qb Ju (λb5=>QO (vs:=[_,_,_,_]) I I I QL I .here .h4 wR<|wG<|QG<|wJ I<|QA (Qh I EY)<|wE I<|wG<|QU<|JU (ι:=QGm y.nm.n tb) [(2,_),(5,_),(14,_),(15,_)] (λi=>[(16,.int .i64 ((i.i:Nat):Int))]) (λi=>[(b5,.cells (Ku i.c).toArray 135 (0,0)),(b2,.cells #[.slice y.nm.q y.nm.n y.nm.cap,.slice y.rt.q y.rt.n y.rt.cap,.slice y.st.q y.st.n y.st.cap] 38 (0,0))]) (λi F=>JM F i.c (Hv tb i.i)) (λi=>tb.length - i.i) (⟨Zv.start _ _,c13,by show JL ((0:Int):Rat)<=2400;decide⟩) wR wO wK wk (λi=>?_)))
  simp only[ab,af]
  have hi:=i.le
  rw[ay]at hi
  refine wI<|QA (QZ I I I)<|wG<|QG ?_
  refine QR I (λhc2=>?_) (λhc2=>?_)
  ·
   have hlt:i.i<tb.length:=by have:=wM hc2;omega
   have hem:=Q4 hlt
   refine QQ<|QC<|QG<|QU<|wI<|QA (Q9 (n:=r.n) i.i (λF h9=>h9.1.1.2.2.row) rfl rfl EY ZF O)<|QA (Ja (n:=r.n) (vs:=[tx (el tb i.i).e,.slice (el tb i.i).w.q (el tb i.i).w.n (el tb i.i).w.cap,.slice (el tb i.i).l.q (el tb i.i).l.n (el tb i.i).l.cap]) ((i.i)*3) (λF h9=>h9.1.1.2.2.row) O rfl ZF I (λj v hv=>Jm (f:=cG) (l:=tb) qk O hv))<|Qb W3 (λb7=>QO (vs:=[_,_,_]) I I I ZF I .here .h3 wQ<|wG<|QG<|wI<|QA (QJ (vs:=[_,_,_,_]) I QL .u1 .h4 rfl)<|QA (QH I E2 XA)<|QA (Qg I XA .here .h1)<|QI I (λw F hF h9=>UZ hF h9.1.1.1 h9.2 i.ok (hct _ hem).1) (λ_=>wH I<|wI<|wE I ?_))
   refine QA (QZ I I I)<|QE<|QC ?_
   refine QR I (λhc2=>?_) (λhc2=>?_)
   ·
    have h25:PC (Hv tb i.i) (el tb i.i).e≠0:=bne_iff_ne.1 hc2
    refine wJ I<|wH I<|QY ?_
    repeat (first | refine JA ?_ | refine Q5 ?_)
    exact wL I I (congrArg (ax .i64) (by unfold EK;rw[if_neg O];have h9:=i.toZv.hit (by rw[ay];exact hlt) (by rw[Z3 hlt];unfold dG;rw[YK h25];exact h25);rw[Z3 hlt]at h9;rw[h9];unfold dG;rw[YK h25])) wh
   ·
    have h25:PC (Hv tb i.i) (el tb i.i).e=0:=bne_eq_false_iff_eq.1 hc2
    refine QQ<|QC<|QG<|QG<|JO wK mixed y0<|QK (QJ (vs:=[_,_,_]) I XI .u2 .h3 rfl)<|QK (QH I Ah XJ)<|QK (Qg I XJ .here (.skip .h1))<|QN I (λw F hF h9=>Ys (y:=y) hF h9.1.1.1.1 h9.1.1.1.2.1 (h9.1.1.1.2.2.bx _ hem).1 (hct _ hem).2.1) (λ_=>QK (QJ (vs:=[_,_,_]) I XI .u2 .h3 rfl)<|QK (QH I Ph XJ)<|QK (Qg I XJ .here (.skip (.skip .h1)))<|QN I (λw F hF h9=>Ys (y:=y) hF h9.1.1.1.1.1 h9.1.1.1.1.2.1 (h9.1.1.1.1.2.2.bx _ hem).2 (hct _ hem).2.2) (λ_=>?_))
    refine Qm I (Qw ZG) Yf Hz I I (λb35=>?_) (λw h=>h.imp wm (λF h=>h.1.1))
    refine QN I (λw F hF h9=>YR hF (Qy.of (cs:=aT JY [_,_]) h9.2 I) wa) (λ_=>QK (QF I)<|Q6<|QC<|wJ I<|QA (QZ I I I)<|QE<|QC ?_)
    refine QR I (λhc2=>?_) (λhc2=>?_)
    ·
     have h38:Qn [KN y.nm.n (el tb i.i).wl,KN y.nm.n (el tb i.i).ll]≠0:=bne_iff_ne.1 hc2
     have hbx:dG y.nm.n tb i.i=Qn [KN y.nm.n (el tb i.i).wl,KN y.nm.n (el tb i.i).ll]:=by unfold dG;rw[h25,YL]
     refine wJ I<|wH I<|QY ?_
     repeat (first | refine JA ?_ | refine Q5 ?_)
     exact wL I I (congrArg (ax .i64) (by unfold EK;rw[if_neg O];have h9:=i.toZv.hit (by rw[ay];exact hlt) (by rw[Z3 hlt,hbx];exact h38);rw[Z3 hlt]at h9;rw[h9,hbx])) wh
    ·
     have h38:Qn [KN y.nm.n (el tb i.i).wl,KN y.nm.n (el tb i.i).ll]=0:=bne_eq_false_iff_eq.1 hc2
     have hbx:dG y.nm.n tb i.i=0:=by unfold dG;rw[h25,YL];exact h38
     refine QQ<|QC<|QB<|QA (QH I E2 XA)<|QA (Qg I XA .here .h1)<|QI I (λw F hF h9=>Kr hF h9.1.1.1.1.1.1.1.1 (XT (Hj h25).1).1 (by have:=(hct _ hem).1;omega)) (λc42=>QO (vs:=[_,_,_,_]) I I I QL I .u1 .h4 wR<|QE<|Qk<|QC<|QB<|QA (Qu I I O)<|wE I<|QE ?_)
     exact Ql (⟨i.toZv.next (by rw[ay];exact hlt) (by rw[Z3 hlt];exact hbx),c42,by show JL (Hv tb (i.i+1))<=2400;rw[SC];exact Yy (Hj h25).1⟩) (by show tb.length - (i.i+1)<tb.length - i.i;omega) wS ((.cons _ wK)) (λF ⟨⟨⟨⟨⟨⟨⟨⟨⟨hGl,hy,hx⟩,h13⟩,hS⟩,_⟩,_⟩,_⟩,hs35⟩,_⟩,h42⟩=>⟨⟨⟨hGl,hy,hx⟩,h13⟩,by show JM F c42 (Hv tb (i.i+1));rw[SC];exact h42⟩)
  ·
   have hge:tb.length<=i.i:=by have:=wN hc2;omega
   refine Qz ?_
   repeat (first | refine QW ?_ | refine QP wc ?_)
   refine QX<|QC<|wI<|wH I<|QY ?_
   exact wL I I (congrArg (ax .i64) (by unfold EK;rw[if_neg O];exact i.toZv.stop (by rw[ay];exact hge))) wh
theorem qm{P:Program}{l:List Oper}{Q:Exit->Act->World->Prop}{S0:World->Prop}{A r:List Nat}{m:Sl}{w0:World}{F0:Gs}{bs:List (Nat×Obj)}{G:Gs->Prop}(p:Prop)(hp:∀w F,Fits F w->G F->p)(k:p->KT P l Q S0 A r N m w0 F0 bs G):KT P l Q S0 A r N m w0 F0 bs G:=λu β a w hu ha hx hw=>k (hw.pure hp) u β a w hu ha hx hw
def uI(x:Rat×Rat)(P:List Tm)(b:W2):Bool:=!(decide (Ks x.2 (J8 ((Qs b.e,Qs b.e)::lV b.ll) P).1<0)||decide (Ks (J8 ((Qs b.e,Qs b.e)::lV b.ll) P).2 x.1<0))
def PA(y:Zr)(p:Pt)(tb:List W2):Int:=Qn [y.e,Ht p (y.nm.n:Int),EK y.nm.n tb]
def kj(y:Zr)(p:Pt):Rat×Rat:=J8 ((((0:Int):Rat),((0:Int):Rat))::y.vs) (Xz p)
def uH(y:Zr)(p:Pt):Bool:=decide (Ax y.rs (Xz p) y.rs.length=[])
def kpR(y:Zr)(p:Pt)(tb:List W2):Bool×Int:=if PA y p tb≠0 then(false,PA y p tb)else if uH y p=true then(tb.all (uI (kj y p) (Xz p)),0)else(false,7)
theorem QAS{p:Pt}{e:Int}(h:e≠0)(he:PA y p tb=e):kpR y p tb=(false,e):=by unfold kpR;rw[he,if_pos h]
theorem QES{p:Pt}(he:PA y p tb=0)(h:uH y p=false):kpR y p tb=(false,7):=by unfold kpR;rw[he,if_neg wa,h];rfl
theorem ko{p:Pt}(he:PA y p tb=0)(h:uH y p=true):kpR y p tb=(tb.all (uI (kj y p) (Xz p)),0):=by unfold kpR;rw[he,if_neg wa,if_pos h]
structure QGw(y:Zr)(p:Pt)(tb:List W2):Prop where
 al:qt y.rs (Xz p) (y.nm.n+1)
 e0:CY ((((0:Int):Rat),((0:Int):Rat))::y.vs) (Xz p)
 z0:Xj (kj y p) 100000000
 ev:∀b∈tb,CY ((Qs b.e,Qs b.e)::lV b.ll) (Xz p)
 zs:∀b∈tb,Xj (J8 ((Qs b.e,Qs b.e)::lV b.ll) (Xz p)) 100000000
theorem yz{p:Pt}{n:Nat}(hn:n<=24)(h:Ht p (n:Int)=0):Yi p (n:Int)=0:=by
 unfold Ht at h;rwa [if_pos ((Gq _).2 O)]at h
theorem uJ{a:S1}{r:Sr}(hF:Fits F w)(hGl:JC F)(hy:Zm F y)(ht:H6 y)(hR:Qy F a.1.q a.1.n 2 (a.2.flatMap Nn))(hA:WQ F a.2)(hta:FC a)(hx:Le F r tb)(hc:QCO r tb)(hok:PA y (Y8 a.2) tb=0->QGw y (Y8 a.2) tb):Qe Tryz.prog 51 [y.v,a.1.v,r.v] w F (.tuple #[.bool (kpR y (Y8 a.2) tb).1,.int .i64 (kpR y (Y8 a.2) tb).2]):=by
 have hxr:=hx.len
 have hcn:=hc.n
 refine QS.intro (G:=λF=>JC F/\Zm F y/\Qy F a.1.q a.1.n 2 (a.2.flatMap Nn)/\WQ F a.2/\Le F r tb) Tryz.func51 rfl wc rfl rfl hF (λF' hF'=>⟨hGl.le hF',hy.le hF',hR.le hF',hA.le hF',hx.le hF'⟩)<|wI<|Qo rfl (vs:=[_,_,_]) rfl (λb3=>wF rfl<|wH rfl<|QG<|wI<|QA (QJ (vs:=[_,_,_]) rfl XI .here .h3 rfl)<|QI rfl (λw F hF h9=>ZT (y:=y) hF h9.1 h9.2.1 ht) (λ_=>wH rfl<|wJ rfl<|QA (QZ rfl rfl rfl)<|QE<|QC ?_))
 refine QR I (λhc2=>?_) (λhc2=>?_)
 ·
  have h20:y.e≠0:=bne_iff_ne.1 hc2
  have hke:PA y (Y8 a.2) tb=y.e:=by unfold PA;rw[YK h20]
  refine wJ I<|wF I<|wH I<|QY ?_
  exact JZ (()) I (wC I I) (by rw[QAS h20 hke]) wh
 ·
  have h20:y.e=0:=bne_eq_false_iff_eq.1 hc2
  have hke:PA y (Y8 a.2) tb=Qn [Ht (Y8 a.2) y.nm.n,EK y.nm.n tb]:=by unfold PA;rw[h20,YL]
  have ho:=hy.ok h20
  have hn1:=ho.n1
  have hn0:=ho.n0
  have hsn:=ho.sn
  have hsl:=hy.Us
  refine QQ<|QC<|QG<|QG<|JO wK mixed y0<|QK (QD I)<|QK (QH I Mu Hp)<|QK (Qg I Hp .here .h1)<|QK (Qh I Wf)<|QN I (λw F hF h9=>He hF h9.1.1 h9.1.2.2.1 h9.1.2.2.2.1 hta.1 hta.2.1 hta.2.2) (λ_=>QK (QJ (vs:=[_,_,_]) I XI .here .h3 rfl)<|QK (QD I)<|QN I (λw F hF h9=>LV (y:=y) hF h9.1.1.1 h9.1.1.2.1 h9.1.1.2.2.2.2 hc) (λ_=>?_))
  refine Qm I (Qw ZG) Yf Hz I I (λb30=>?_) (λw h=>h.imp wm (λF h=>h.1.1))
  refine QN I (λw F hF h9=>YR hF (Qy.of (cs:=aT JY [_,_]) h9.2 I) wa) (λ_=>QK (QF I)<|Q6<|QC<|wJ I<|QA (QZ I I I)<|QE<|QC ?_)
  refine QR I (λhc2=>?_) (λhc2=>?_)
  ·
   have h33:Qn [Ht (Y8 a.2) y.nm.n,EK y.nm.n tb]≠0:=bne_iff_ne.1 hc2
   refine wJ I<|wF I<|wH I<|QY ?_
   exact JZ (()) I (wC I I) (by rw[QAS h33 hke]) wh
  ·
   have h33:Qn [Ht (Y8 a.2) y.nm.n,EK y.nm.n tb]=0:=bne_eq_false_iff_eq.1 hc2
   rw[h33]at hke
   have hok:=hok hke
   have hpe:=yz hn1 (Q7 h33 _ (.head _))
   have opk:=BH hpe
   have hto:=dY (Q7 h33 (EK y.nm.n tb) (.tail _ (.head _)))
   have hct:∀b∈tb,b.e.length<=1000000/\DI b.w b.wl/\DI b.l b.ll:=hc.t.resolve_left (by have:=hto.len;omega)
   refine QQ<|QC<|QG<|wI<|QA (QJ (vs:=[_,_,_]) I XI .here .h3 rfl)<|wE I<|QI I (λw F hF ⟨⟨⟨⟨⟨⟨hGl,hy,hR,hA,hx⟩,_⟩,_⟩,_⟩,hs30⟩,_⟩=>AV (y:=y) hF hGl hy ht h20 hR hA hta hpe hok.al) (λ_=>wE I<|QA (QT I I)<|QA (QT I I)<|wF I<|wH I<|wJ I<|QA (QZ I I I)<|wE I<|QM I I<|wE I<|QM I I<|QA (YN I)<|QA (Qj I I I) ?_)
   refine QE<|QC ?_
   refine QR I (λhc2=>?_) (λhc2=>?_)
   ·
    have hki:uH y (Y8 a.2)=false:=by unfold uH;simpa using hc2
    refine wJ I<|Qa I (Qw ZG) Yf Hz I I (λb48=>QI I (λw F hF h9=>YR hF (Qy.of (cs:=aT JY [0,7]) h9.2 I) wa) (λ_=>wF I<|wH I<|QY ?_))
    exact JZ (()) I (wC I I) (by rw[QES hke hki]<;>rfl) wh
   ·
    have hki:uH y (Y8 a.2)=true:=by unfold uH;simpa using hc2
    refine QQ<|QC<|wJ rfl<|QI rfl (λw F hF h9=>PU hF h9.1.1.1.1.1.1.1 (a:=a) h9.1.1.1.1.1.1.2.2.1 h9.1.1.1.1.1.1.2.2.2.1 hta (BH hpe) O) (λc51=>JQ _ (λw F hF h=>ar h.2.eqT (ar h.2.2.2.2.2 h.2.len)) (λe51=>?_))
    obtain⟨e51,l51,m51⟩:=e51
    have hp51:c51.1.n<=64:=by have:=opk.len;unfold Xz at m51;rw[aa]at m51;omega
    refine wH I<|QG<|K7 (r:=[0,1,2,3,4,5,6,7,8]) wm mixed y0 rfl<|Jp 0 y0 rfl rfl<|QK (QD I)<|JB<|Jp 3 y0 rfl rfl<|QK (QH I K3 XJ)<|JB<|Jp 4 y0 rfl rfl<|QK (Qg I XJ .here (.skip (.skip .h1)))<|JB<|K6 (A:=[7]) (r:=[1,2,5,6,8]) y0<|XM 1 y0 y0 wc wm wi rfl rfl rfl (λ_=>rfl) (λw F hF h9=>TO (n:=0) hF wa wa) (λc53=>XM 2 y0 y0 wc wm wj rfl rfl rfl (λ_=>rfl) (λw F hF h9=>K1 (x:=c53) (r:=((0:Int):Rat)) hF h9.2) (λc54=>XM 5 y0 y0 wc wm (λ_ h=>h.1.1) rfl rfl rfl (λ_=>rfl) (λw F hF h9=>Bb hF h9.1.1.1.1.1.1.1.1.1.1 h9.1.1.1.1.1.1.1.1.1.2.1.st h9.1.1.1.1.1.1.1.1.1.2.1.Us O (λs hs=>⟨ho.st s hs,ht.st s hs⟩)) (λc57=>qm _ (λw F hF h9=>h9.2.nl) (λhn57=>?_))))
    rw[aa,hsl]at hn57
    refine XM 6 y0 y0 wc wm (λ_ h=>h.1.1.1) rfl rfl rfl (λ_=>rfl) (λw F hF h9=>EJ (pa:=c51) (x:=c54) (t:=(((0:Int):Rat),((0:Int):Rat))) (vb:=y.vs) hF h9.1.1.1.2.self h9.1.2 h9.2 O O (by rw[e51];exact hok.e0)) (λc58=>?_)
    rw[e51]
    refine VQ 7 (d:=13) (T:=168) y0 y0 wc wm (λ_ h=>h.1.1.1.1) y0 y0 Ji (λb13=>Z7 (vs:=[_,_,_,_,_,_,_,_]) 8 y0 y0 wc (.cons _ wm) (λ_ h=>h.1.1.1.1) rfl rfl (λ_=>rfl) (λ_=>rfl) rfl Qi I .here wm .h8 wV ?_)
    refine WO ?_ y0
    refine QC<|QG<|wJ I<|QA (Qh I EY)<|wE I<|wG<|QU<|JU (ι:=EC tb (uI (kj y (Y8 a.2)) (Xz (Y8 a.2)))) [(12,_),(13,_),(59,_),(60,_)] (λi=>[(61,.int .i64 ((i.i:Nat):Int))]) (λi=>[(b13,.cells (Xs c58).toArray 168 (0,0))]) (λi F=>True) (λi=>tb.length - i.i) (EC.start _ _) wR wO (wv) wh (λi=>?_)
    simp only[ab,af]
    have hi:=i.le
    refine wI<|QA (QZ I I I)<|wG<|QG ?_
    refine QR I (λhc2=>?_) (λhc2=>?_)
    ·
     have hlt:i.i<tb.length:=by have:=wM hc2;omega
     have hem:=Q4 hlt
     refine QQ<|QC<|QG<|QU<|wI<|QA (Q9 (n:=r.n) i.i (λF h9=>h9.1.1.1.1.1.1.1.1.1.1.1.1.2.2.2.2.row) rfl rfl EY ZF O)<|QA (Ja (n:=r.n) (vs:=[tx (el tb i.i).e,.slice (el tb i.i).w.q (el tb i.i).w.n (el tb i.i).w.cap,.slice (el tb i.i).l.q (el tb i.i).l.n (el tb i.i).l.cap]) ((i.i)*3) (λF h9=>h9.1.1.1.1.1.1.1.1.1.1.1.1.2.2.2.2.row) O rfl ZF I (λj v hv=>Jm (f:=cG) (l:=tb) qk O hv))<|Qb W3 (λb15=>QO (vs:=[_,_,_]) I I I ZF I .here .h3 wQ<|wG<|QG<|K7 (r:=[0,1,2,3,4,5,6,7,8,9,10]) wm mixed y0 rfl<|Jp 0 y0 rfl rfl<|QK (QD I)<|JB<|Jp 1 y0 rfl rfl<|QK (QH I E2 XA)<|JB<|Jp 2 y0 rfl rfl<|QK (Qg I XA .here .h1)<|JB<|Jp 5 y0 rfl rfl<|QK (QH I Ph XJ) ?_)
     refine JB<|Jp 6 y0 rfl rfl<|QK (Qg I XJ .here (.skip (.skip .h1)))<|JB<|K6 (A:=[9]) (r:=[3,4,7,8,10]) y0<|XM 3 y0 y0 wc wm wi rfl rfl rfl (λ_=>rfl) (λw F hF h9=>Kr hF h9.1.1.1.1.1.1.1.1.1.1.1.1.1 (XT (hto.e _ hlt)).1 (by have:=(hct _ hem).1;omega)) (λc68=>XM 4 y0 y0 wc wm wj rfl rfl rfl (λ_=>rfl) (λw F hF h9=>K1 (x:=c68) (r:=Qs (el tb i.i).e) hF h9.2) (λc69=>XM 7 y0 y0 wc wm (λ_ h=>h.1.1) rfl rfl rfl (λ_=>rfl) (λw F hF h9=>BJ hF h9.1.1.1.1.1.1.1.1.1.1.1.1.1.1.1 (h9.1.1.1.1.1.1.1.1.1.1.1.1.1.1.2.2.2.2.bx _ hem).2 (hct _ hem).2.2 (Xv (hto.l _ hlt)).2) (λc72=>qm _ (λw F hF h9=>h9.2.nl) (λhn72=>?_))))
     rw[KZ,(Xv (hto.l _ hlt)).1]at hn72
     refine XM 8 y0 y0 wc wm (λ_ h=>h.1.1.1) rfl rfl rfl (λ_=>rfl) (λw F hF h9=>EJ (pa:=c51) (x:=c69) (t:=(Qs (el tb i.i).e,Qs (el tb i.i).e)) hF h9.1.1.1.1.1.1.1.1.2.self h9.1.2 h9.2 O O (by rw[e51];exact hok.ev _ hem)) (λc73=>?_)
     rw[e51]
     refine VQ 9 (d:=16) (T:=168) y0 y0 wc wm (λ_ h=>h.1.1.1.1) y0 y0 Ji (λb16=>Z7 (vs:=[_,_,_,_,_,_,_,_]) 10 y0 y0 wc (.cons _ wm) (λ_ h=>h.1.1.1.1) rfl rfl (λ_=>rfl) (λ_=>rfl) rfl Qi I .here wm .h8 wV ?_)
     refine WO ?_ y0
     refine QC ?_
     refine YV [(12,_),(13,_),(59,_),(60,_),(61,_)] [(87,.bool ((!uI (kj y (Y8 a.2)) (Xz (Y8 a.2)) (el tb i.i))))] wS ?_ ?_
     ·
      refine QB<|QA (QH I Xt QL)<|QA (QJ (vs:=[_,_,_,_]) I QL .u2 (.skip (.skip (.skip (.skip .h4)))) I)<|QA (QH I Xu QL)<|QA (QJ (vs:=[_,_,_,_]) I QL .here .h4 rfl)<|QI I (λw F hF h9=>Hb (x:=c58.hi) (y:=c73.lo) (r:=(kj y (Y8 a.2)).2) (s:=(J8 ((Qs (el tb i.i).e,Qs (el tb i.i).e)::lV (el tb i.i).ll) (Xz (Y8 a.2))).1) hF h9.1.1.1.1.1.2.2 h9.2.1 hok.z0.2 (hok.zs _ hem).1) (λ_=>QA (QZ I I I)<|wE I ?_)
      refine Q3 (t:=80) rfl (λhb80=>?_) (λhb80=>?_)
      ·
       refine Qc I I I<|Qc I I I<|Qc I I I<|Qc I I I<|Qc I I I<|Qc I I I<|QA (Qp I I I)<|QE ?_
       exact J3 ⟨rfl,rfl,rfl,rfl,rfl,(congrArg (λb=>some (eR b)) (by unfold uI;rw[hb80];rfl)),trivial⟩ wK wj
      ·
       refine QM I I<|QA (QH I Xt QL)<|QM I I<|QA (QJ (vs:=[_,_,_,_]) I QL .here (.skip (.skip (.skip (.skip .h4)))) I)<|QM I I<|QA (QH I Xu QL)<|QM I I<|QA (QJ (vs:=[_,_,_,_]) I QL .u2 .h4 rfl)<|QM I I<|QI I (λw F hF h9=>Hb (x:=c73.hi) (y:=c58.lo) (r:=(J8 ((Qs (el tb i.i).e,Qs (el tb i.i).e)::lV (el tb i.i).ll) (Xz (Y8 a.2))).2) (s:=(kj y (Y8 a.2)).1) hF h9.1.2.2 h9.1.1.1.1.1.1.2.1 (hok.zs _ hem).2 hok.z0.1) (λ_=>QM I I<|QA (QZ I I I)<|QA (Qj I I I)<|QE ?_)
       exact J3 ⟨rfl,rfl,rfl,rfl,rfl,(congrArg (λb=>some (eR b)) (by unfold uI;rw[hb80,Bool.false_or,Bool.not_not])),trivial⟩ wK (λ_ h=>h.1.1)
     ·
      simp only[ab,af]
      refine QR I (λhc2=>?_) (λhc2=>?_)
      ·
       have hkb:uI (kj y (Y8 a.2)) (Xz (Y8 a.2)) (el tb i.i)=false:=by simpa using hc2
       refine wI<|wF I<|wH I<|QY ?_
       repeat (first | refine JA ?_ | refine Q5 ?_)
       exact JZ (()) I (wC I I) (by rw[ko hke hki,i.hit hlt hkb]) wh
      ·
       have hkb:uI (kj y (Y8 a.2)) (Xz (Y8 a.2)) (el tb i.i)=true:=by simpa using hc2
       refine QQ<|Qk<|QC<|QB<|QA (Qu I I O)<|wE I<|QE ?_
       exact Ql (i.next hlt hkb) (by show tb.length - (i.i+1)<tb.length - i.i;omega) wS ((.cons _ (.cons _ wK))) (λF h=>⟨h.1.1.1.1.1,trivial⟩)
    ·
     have hge:tb.length<=i.i:=by have:=wN hc2;omega
     refine Qz ?_
     repeat (first | refine QW ?_ | refine QP wc ?_)
     refine QX<|QC<|wI<|wF I<|wH I<|QY ?_
     exact JZ (()) I (wC I I) (by rw[ko hke hki,i.stop hge]) wh
def L6(v:List (Rat×Rat)):List (List UInt8×List UInt8):=v.map λa=>(Je a.1,Je a.2)
theorem dX(v:List (Rat×Rat)):(L6 v).length=v.length:=by simp[L6]
theorem Hy.qg{c:Sr}{v:List (Rat×Rat)}(h:Hy F c v):VG F c (L6 v):=⟨by
 have e:(L6 v).flatMap OO=v.flatMap QA1:=by unfold L6;rw[List.flatMap_map];rfl
 rw[e];exact h.1,by rw[dX];exact h.2.1.symm⟩
abbrev CQ:=Rat×List (Rat×Rat)×List (Rat×Rat)
instance :Inhabited CQ:=⟨(0,[],[])⟩
def Uo(t:List CQ):List (List UInt8×List (List UInt8×List UInt8)×List (List UInt8×List UInt8)):=t.map λp=>(Je p.1,L6 p.2.1,L6 p.2.2)
def W2.d(b:W2):List UInt8×List (List UInt8×List UInt8)×List (List UInt8×List UInt8):=(b.e,b.wl,b.ll)
structure Ld(F:Gs)(c:Sr×List W2)(t:List CQ):Prop where
 a:Le F c.1 c.2
 d:c.2.map W2.d=Uo t
 cap:c.1.n<=c.1.cap
theorem Ld.nil(F:Gs):Ld F (⟨none,0,0⟩,[]) []:=⟨⟨Qy.nil F none 3,rfl,λb h=>by cases h⟩,rfl,ag _⟩
def OF(p:CQ):Bool:=Jz p.2.1||Jz p.2.2
def tuR(e:Int)(o:Option (List CQ)):Int×List CQ:=if e≠0 then(e,[])else match o with
 |none=>(25,[])
 |some t=>(if t.any OF=true then 4 else 0,if t.any OF=true then[]else t)
theorem cX{e:Int}{o:Option (List CQ)}(h:e≠0):tuR e o=(e,[]):=by unfold tuR;rw[if_pos h]
theorem FY:tuR 0 none=(25,[]):=rfl
theorem BE(t:List CQ):tuR 0 (some t)=(if t.any OF=true then 4 else 0,if t.any OF=true then[]else t):=rfl
def cI(rs:List (List Tm))(n:Nat)(b:Int):Rat->List (Rat×Rat)->List Rat->Prop
 |_,_,[]=>True
 |fr,x,e::es=>gW rs fr e x n b/\∀p,KJ rs fr e x n b=some p->cI rs n b e p.2 es
theorem jA{rs:List (List Tm)}{e:Rat}{es:List Rat}(h:KJ rs fr e x n b=none):Wb rs n b fr x (e::es)=none:=by unfold Wb;rw[h]
theorem q9{rs:List (List Tm)}{e:Rat}{es:List Rat}{p:List (Rat×Rat)×List (Rat×Rat)}(h:KJ rs fr e x n b=some p):Wb rs n b fr x (e::es)=(Wb rs n b e p.2 es).map λr=>(e,p.1,p.2)::r:=by rw[Wb,h]
def pe(m:dK):List Value:=[.slice m.1.1.q m.1.1.n m.1.1.cap,.slice m.2.1.q m.2.1.n m.2.1.cap]
theorem pc(m:dK):(pe m).length=2:=rfl
instance :Inhabited Y9:=⟨(default,(0,0))⟩
instance :Inhabited dK:=⟨((default,[]),(default,[]))⟩
structure TuJ(rs:List (List Tm))(n:Nat)(b:Int)(vs:List (Rat×Rat))(es:List (List UInt8)) where
 i:Nat
 f0:Value
 f1:Value
 f2:Value
 f3:Value
 tt:Fr
 bx:Sr
 bl:List Y9
 cur:List (Rat×Rat)
 v:Value
 ob:List (Nat×Obj)
 ms:List dK
 acc:List CQ
 le:i<=es.length
 hr:Qx 218 2 v i (ms.flatMap pe) ob
 len:ms.length=i
 h:Wb rs n b ((0:Int):Rat) vs (es.map Qs)=(Wb rs n b (KL es i) cur ((es.map Qs).drop i)).map λr=>acc++r
 ok:cI rs n b (KL es i) cur ((es.map Qs).drop i)
 xP:acc.length=i
 ux:cur.length=vs.length
 sz:∀p∈acc,(p.2.1.length=vs.length/\p.2.2.length=vs.length)/\(∀a∈p.2.1,Xj a 100000000)/\∀a∈p.2.2,Xj a 100000000
 he:∀j,j<i->(el acc j).1=Qs (el es j)
structure TuH(rs:List (List Tm))(n:Nat)(b:Int)(vs:List (Rat×Rat))(es:List (List UInt8))(F:Gs)(i:TuJ rs n b vs es):Prop where
 tt:JM F i.tt (KL es i.i)
 bx:J9 F i.bx i.bl i.cur
 ms:∀j,j<i.i->J9 F (el i.ms j).1.1 (el i.ms j).1.2 (el i.acc j).2.1/\J9 F (el i.ms j).2.1 (el i.ms j).2.2 (el i.acc j).2.2
theorem Gn(h:i<es.length):(es.map Qs).drop i=Qs (el es i)::(es.map Qs).drop (i+1):=by
 rw[DC (by rw[aa];exact h)]
 congr 1
 rw[JK (by rw[aa];exact h),aW,JK h]
theorem qO{β:Type}(l:List α)(x:α)(f:α->List β):(l++[x]).flatMap f=l.flatMap f++f x:=by rw[eF];simp
theorem D4[Inhabited α]{l:List α}{x:α}{j i:Nat}(hl:l.length=i)(h:j<i):el (l++[x]) j=el l j:=by subst hl;exact Al h
theorem Hd[Inhabited α]{l:List α}{x:α}{i:Nat}(hl:l.length=i):el (l++[x]) i=x:=by subst hl;exact qU l x
theorem Fm{o:Option (List (Rat×Rat)×List (Rat×Rat))}{c:dK}{p:List (Rat×Rat)×List (Rat×Rat)}(h:stF F o c)(e:o=some p):J9 F c.1.1 c.1.2 p.1/\J9 F c.2.1 c.2.2 p.2:=by rw[e]at h;exact h
def TuJ.next{rs:List (List Tm)}{n:Nat}{b:Int}{vs:List (Rat×Rat)}{es:List (List UInt8)}(s:TuJ rs n b vs es)(hb:b<=64)(hlt:s.i<es.length){p:List (Rat×Rat)×List (Rat×Rat)}(hv:KJ rs (KL es s.i) (Qs (el es s.i)) s.cur n b=some p)(cf:Fr)(c:dK){v:Value}{ob:List (Nat×Obj)}(hr:Qx 218 2 v (s.i+1) (s.ms.flatMap pe++pe c) ob):TuJ rs n b vs es :=
 ⟨s.i+1,.int .i64 s.tt.n.s,.slice s.tt.n.q s.tt.n.n s.tt.n.cap,.int .i64 s.tt.d.s,.slice s.tt.d.q s.tt.d.n s.tt.d.cap,cf,c.2.1,c.2.2,p.2,v,ob,s.ms++[c],s.acc++[(Qs (el es s.i),p.1,p.2)],hlt,by rw[qO];exact hr,by rw[aC,s.len];rfl,by
  rw[s.h,Gn hlt,q9 hv,Wn,Option.map_map]
  congr 1
  funext r
  simp,by
  have h1:=s.ok
  rw[Gn hlt]at h1
  rw[Wn];exact h1.2 p hv,by rw[aC,s.xP];rfl,by
  have h1:=s.ok
  rw[Gn hlt]at h1
  exact(EX hb h1.1 hv).1.2.trans s.ux,λq hq=>by
  have h1:=s.ok
  rw[Gn hlt]at h1
  have h2:=EX hb h1.1 hv
  rcases List.mem_append.1 hq with hq | hq
  ·exact s.sz q hq
  ·rw[List.mem_singleton.1 hq];exact⟨⟨h2.1.1.trans s.ux,h2.1.2.trans s.ux⟩,h2.2.1,h2.2.2⟩,λj hj=>by
  rcases Nat.lt_succ_iff_lt_or_eq.1 hj with h | h
  ·rw[D4 s.xP h];exact s.he j h
  ·rw[h,Hd s.xP]⟩
theorem TuH.next{rs:List (List Tm)}{vs:List (Rat×Rat)}{s:TuJ rs n b vs es}(hb:b<=64)(hlt:s.i<es.length){p:List (Rat×Rat)×List (Rat×Rat)}(hv:KJ rs (KL es s.i) (Qs (el es s.i)) s.cur n b=some p){cf:Fr}{c:dK}{v:Value}{ob:List (Nat×Obj)}(hr:Qx 218 2 v (s.i+1) (s.ms.flatMap pe++pe c) ob)(h:TuH rs n b vs es F s)(h1:JM F cf (Qs (el es s.i)))(h2:stF F (KJ rs (KL es s.i) (Qs (el es s.i)) s.cur n b) c):TuH rs n b vs es F (s.next hb hlt hv cf c hr) :=
 ⟨by show JM F cf (KL es (s.i+1));rw[Wn];exact h1,(Fm h2 hv).2,λj hj=>by
  rcases Nat.lt_succ_iff_lt_or_eq.1 hj with g | g
  ·show J9 F (el (s.ms++[c]) j).1.1 (el (s.ms++[c]) j).1.2 (el (s.acc++[_]) j).2.1/\J9 F (el (s.ms++[c]) j).2.1 (el (s.ms++[c]) j).2.2 (el (s.acc++[_]) j).2.2
   rw[D4 s.len g,D4 s.xP g];exact h.ms j g
  ·show J9 F (el (s.ms++[c]) j).1.1 (el (s.ms++[c]) j).1.2 (el (s.acc++[_]) j).2.1/\J9 F (el (s.ms++[c]) j).2.1 (el (s.ms++[c]) j).2.2 (el (s.acc++[_]) j).2.2
   rw[g,Hd s.len,Hd s.xP];exact Fm h2 hv⟩
structure TbJ(acc:List CQ) where
 i:Nat
 v:Value
 ob:List (Nat×Obj)
 bs:List W2
 le:i<=acc.length
 hr:Qx 123 3 v i (bs.flatMap cG) ob
 len:bs.length=i
 no:∀j,j<i->OF (el acc j)=false
 d:bs.map W2.d=Uo (acc.take i)
theorem gI{tt:List CQ}(h:i<tt.length)(k:OF (el tt i)=true):tt.any OF=true:=List.any_eq_true.2 ⟨_,Q4 h,k⟩
theorem xN{tt:List CQ}(h:∀j,j<tt.length->OF (el tt j)=false):tt.any OF=false:=by
 cases e:tt.any OF with
 |false=>rfl
 |true =>
  obtain⟨x,hx,k⟩:=List.any_eq_true.1 e
  obtain⟨j,hj,rfl⟩:=aL hx
  have:=h j hj
  rw[JK hj,k]at this;cases this
theorem q8{acc:List CQ}(h:i<acc.length):Uo (acc.take (i+1))=Uo (acc.take i)++[(Je (el acc i).1,L6 (el acc i).2.1,L6 (el acc i).2.2)]:=by rw[XN h];simp[Uo]
def TbJ.next{acc:List CQ}(s:TbJ acc)(h:s.i<acc.length)(be:W2){v:Value}{ob:List (Nat×Obj)}(hr:Qx 123 3 v (s.i+1) (s.bs.flatMap cG++cG be) ob)(hno:OF (el acc s.i)=false)(hd:be.d=(Je (el acc s.i).1,L6 (el acc s.i).2.1,L6 (el acc s.i).2.2)):TbJ acc :=
 ⟨s.i+1,v,ob,s.bs++[be],h,by rw[qO];exact hr,by rw[aC,s.len];rfl,λj hj=>by
  rcases Nat.lt_succ_iff_lt_or_eq.1 hj with g | g
  ·exact s.no j g
  ·rw[g];exact hno,by rw[au,s.d,q8 h,<-hd];rfl⟩
def tuE(y:Zr)(es:List (List UInt8))(o b:Int):Int:=Qn [y.e,Nj es,BR o,Vg b]
theorem vQ(h:Nj es=0):es.length<=1000/\(∀i,i<es.length->Jw (el es i)=0):=by
 unfold Nj at h
 by_cases g:es.length>1000
 ·rw[if_pos g]at h;cases h
 rw[if_neg g]at h
 exact⟨O,λi hi=>(Hj (Q7 h _ (aq (f:=λi=>PC (KL es i) (el es i)) (List.mem_range.2 hi)))).1⟩
theorem QA2{qe:Option Addr}{ne ce:Nat}{o:Int}(hF:Fits F w)(hGl:JC F)(hy:Zm F y)(ht:H6 y)(hR:Qy F qe ne 1 (es.map tx))(hne:es.length=ne)(hel:ne>1000\/∀s∈es,s.length<=1000000)(hok:tuE y es o b=0->cI y.rs o.toNat b ((0:Int):Rat) y.vs (es.map Qs)):
  QS Tryz.prog 71 [y.v,.slice qe ne ce,.int .i64 o,.int .i64 b] w F (λ(c:Sr×List W2)=>.tuple #[c.1.v,.int .i64 (tuR (tuE y es o b) (Wb y.rs o.toNat b ((0:Int):Rat) y.vs (es.map Qs))).1]) (λc F=>Ld F c (tuR (tuE y es o b) (Wb y.rs o.toNat b ((0:Int):Rat) y.vs (es.map Qs))).2):=by
 refine QS.intro (G:=λF=>JC F/\Zm F y/\Qy F qe ne 1 (es.map tx)) Tryz.func71 rfl wc rfl rfl hF (λF' hF'=>⟨hGl.le hF',hy.le hF',hR.le hF'⟩)<|wI<|Qo rfl (vs:=[_,_,_]) rfl (λb4=>wF rfl<|wH rfl<|QG<|wI<|QA (QJ (vs:=[_,_,_]) rfl XI .here .h3 rfl)<|QI rfl (λw F hF h9=>ZT (y:=y) hF h9.1 h9.2.1 ht) (λ_=>wE rfl<|QI rfl (λw F hF h9=>LW hF h9.1.1 h9.1.2.2 hne hel) (λ_=>wE rfl<|QI rfl (λw F hF h9=>WC hF) (λ_=>wE rfl<|QI rfl (λw F hF h9=>Bj hF) (λ_=>Qa rfl (Qw ZG) Yf Hz rfl rfl (λb31=>QI rfl (λw F hF h9=>YR hF (Qy.of (cs:=aT JY [_,_,_,_]) h9.2 rfl) wa) (λ_=>wH rfl<|QG ?_)))))))
 refine QB<|wE I<|QA (QZ I I I)<|QE<|QC ?_
 refine QR I (λhc2=>?_) (λhc2=>?_)
 ·
  have h34:tuE y es o b≠0:=bne_iff_ne.1 hc2
  refine wJ I<|wF I<|wH I<|QY ?_
  exact JZ (((⟨none,0,0⟩,[]):Sr×List W2)) I (wC I I) (by rw[cX h34]<;>rfl) (λF h9=>by rw[cX h34];exact Ld.nil F)
 ·
  have h34:tuE y es o b=0:=bne_eq_false_iff_eq.1 hc2
  have hok:=hok h34
  have hye:y.e=0:=Q7 h34 _ (.head _)
  have hen:=vQ (Q7 h34 (Nj es) (.tail _ (.head _)))
  have hor:=PZ (Q7 h34 (BR o) (.tail _ (.tail _ (.head _))))
  have hbt:=Sk (Q7 h34 (Vg b) (.tail _ (.tail _ (.tail _ (.head _)))))
  have ho:=hy.ok hye
  have hn1:=ho.n1
  have hn0:=ho.n0
  have hrn:=ho.rn
  have hsn:=ho.sn
  have hsl:=hy.Us
  have hrs:y.rs.length=y.nm.n:=by unfold Zr.rs;rw[aa,hy.Va,hrn]
  have hvs:y.vs.length=y.nm.n:=by unfold Zr.vs;rw[aa,hsl,hsn]
  have hel2:∀s∈es,s.length<=1000000:=hel.resolve_left O
  obtain⟨n,rfl⟩:∃n:Nat,o=(n:Int):=⟨o.toNat,O⟩
  rw[ah]at hok
  refine QQ<|QC<|wI<|QA (QJ (vs:=[_,_,_]) rfl XI .here .h3 rfl)<|QI rfl (λw F hF h9=>Zi (y:=y) hF h9.1.1.1.1.1.1.1 h9.1.1.1.1.1.1.2.1 ht ho) (λc37=>JQ _ (λw F hF ⟨⟨⟨⟨⟨⟨⟨⟨hGl,hy,hR⟩,_⟩,_⟩,_⟩,_⟩,hs31⟩,_⟩,h37⟩=>ar h37.Va (ar (h37.pn ho.short) h37.box.nl)) (λhnn=>?_))
  obtain⟨hn37,hp37,hb37⟩:=hnn
  refine wH I<|QG<|K7 (r:=[0,1,2,3,4,5,6,7]) wv mixed y0 rfl<|Jp 1 y0 rfl rfl<|QK (QD I)<|JB<|Jp 2 y0 rfl rfl<|QK (Zj I)<|JB<|Jp 3 y0 rfl rfl<|QK (QH I ub JE)<|JB<|Jp 4 y0 rfl rfl<|QK (Z2 (c:=#[c37.rt.v,c37.st.v]) (T':=188) rfl JE (λF h9=>h9.2.BA) rfl)<|JB<|K6 (A:=[6]) (r:=[0,5,7]) y0<|XM 0 y0 y0 wc wv wi rfl rfl rfl (λ_=>rfl) (λw F hF h9=>TO (n:=0) hF wa wa) (λc38=>xX 5 y0 y0 wc wv wj rfl wc (λ_=>Qv I y7 Ca (.cons (vs:=[_,_,_,_]) I I I (.skip (.skip (.skip (.skip .h4)))) (.cons (vs:=[_]) I I I (.skip (.skip (.skip (.skip (.skip (.skip (.skip (.skip .h1)))))))) .nil)))<|VQ 6 (d:=12) (T:=183) y0 y0 wc wv wj y0 y0 Ca (λb12=>Z7 (vs:=[_,_,_,_,_,_,_,_,_]) 7 y0 y0 wc (.cons _ wv) wj rfl rfl (λ_=>rfl) (λ_=>rfl) rfl BD I .here wv .h9 wW ?_))
  refine WO ?_ y0
  refine QC<|wI<|wH I<|QG<|wJ I<|QA (Qh I Yj)<|wE I<|wG<|QU<|JU (ι:=TuJ y.rs n b y.vs es) [(1,_),(2,_),(3,_),(11,_),(12,_),(44,_),(45,_)] (λi=>[(13,i.v),(46,.int .i64 ((i.i:Nat):Int))]) (λi=>(b12,.cells #[i.f0,i.f1,i.f2,i.f3,.int .i64 i.tt.n.s,.slice i.tt.n.q i.tt.n.n i.tt.n.cap,.int .i64 i.tt.d.s,.slice i.tt.d.q i.tt.d.n i.tt.d.cap,.slice i.bx.q i.bx.n i.bx.cap] 183 (0,0))::i.ob) (λi F=>TuH y.rs n b y.vs es F i) (λi=>es.length - i.i) (⟨0,.int .i64 0,.slice none 0 0,.int .i64 0,.slice none 0 0,c38,c37.st,c37.sl,y.vs,.slice none 0 0,[],[],[],aH _,.nil,rfl,(by show Wb y.rs n b _ _ _=Option.map _ (Wb y.rs n b ((0:Int):Rat) _ _);rw[aX];simp),hok,rfl,rfl,(λp h=>by cases h),λj h=>absurd h (bj _)⟩) wU wP (wv) (λF h=>⟨h.2,h.1.2.box,λj h=>absurd h (bj _)⟩) (λi=>?_)
  simp only[ab,af]
  have hi:=i.le
  refine wI<|QA (QZ I I I)<|wG<|QG ?_
  refine QR I (λhc2=>?_) (λhc2=>?_)
  ·
   have hlt:i.i<es.length:=by have:=wM hc2;omega
   have hem:=Q4 hlt
   have hce:=hen.2 _ hlt
   have hcl:=hel2 _ hem
   have hde:=Gn hlt
   have hok1:=i.ok
   rw[hde]at hok1
   have hsp:=hok1.1
   refine XQ _ (λw F hF h9=>h9.2.bx.nl) (λhnb=>?_)
   have hcn:=i.ux
   refine QQ<|QC<|QG<|QU<|wI<|QA (Q9 (n:=ne) i.i (λF h9=>h9.1.1.1.1.1.1.1.1.1.2.2) rfl rfl Yj XA O)<|QA (Jd (n:=ne) ((i.i)*1) (λF h9=>h9.1.1.1.1.1.1.1.1.1.2.2) O rfl XA (X8 (f:=tx) (l:=es) O))<|wH I<|QG<|Jt 5 wK mixed y0 y0 ?_
   simp only[aO,aV,aP,aX]
   refine QK (QH I B7 QL)<|QK (QJ (vs:=[_,_,_,_]) I QL .here (.skip (.skip (.skip (.skip .h4)))) I)<|QK (QD I)<|QN I (λw F hF h9=>Kr hF h9.1.1.1.1.1.1.1.1.1.1 (XT hce).1 O) (λc53=>QK (QH I B8 QL)<|Ze<|QO (vs:=[_,_,_,_]) I I I QL I .here .h4 wR<|QA (QH I B7 QL)<|QO (vs:=[_,_,_,_]) I I I QL I .here (.skip (.skip (.skip (.skip .h4)))) wR<|wG<|wJ I<|QA (QJ (vs:=[_,_,_,_,_,_,_,_,_]) I BD .here .h9 rfl)<|wE I<|wE I<|QI I (λw F hF h9=>yB (n:=n) (x:=⟨i.tt,c53,i.bx,i.bl⟩) (vx:=i.cur) (fr:=KL es i.i) (t2:=Qs (el es i.i)) hF h9.1.1.1.1.1.1.1.1.1.1.1 h9.1.1.1.2 ⟨h9.1.2.tt,h9.2,h9.1.2.bx⟩ (by dsimp only;omega) (by dsimp only;omega) (by dsimp only;omega) (λe he=>by have:=hp37 e he;omega) O hbt hsp) (λc61=>wE I<|QA (QT I I)<|QA (QT I I)<|Qb NK (λb16=>QO (vs:=[_,_]) I I I Kv I .here .h2 wP<|wF I<|QE ?_)))
   refine QC<|QG<|wJ I<|QA (YN I)<|QE<|QC ?_
   refine QR I (λhc2=>?_) (λhc2=>?_)
   ·
    have hv:(KJ y.rs (KL es i.i) (Qs (el es i.i)) i.cur n b)=none:=by cases hv:(KJ y.rs (KL es i.i) (Qs (el es i.i)) i.cur n b)with
     |none=>rfl
     |some v=>rw[hv]at hc2;cases hc2
    have hnone:(Wb y.rs n b ((0:Int):Rat) y.vs (es.map Qs))=none:=by rw[i.h,hde,jA hv];rfl
    refine wI<|wF I<|wH I<|QY ?_
    repeat (first | refine JA ?_ | refine Q5 ?_)
    exact JZ (((⟨none,0,0⟩,[]):Sr×List W2)) I (wC I I) (by rw[h34,ah,hnone,FY]<;>rfl) (λF h9=>by rw[h34,ah,hnone,FY];exact Ld.nil F)
   ·
    obtain⟨p,hv⟩:∃p,(KJ y.rs (KL es i.i) (Qs (el es i.i)) i.cur n b)=some p:=by cases hv:(KJ y.rs (KL es i.i) (Qs (el es i.i)) i.cur n b)with
     |none=>rw[hv]at hc2;cases hc2
     |some v=>exact⟨v,rfl⟩
    have hpz:=EX hbt.2 hsp hv
    refine QQ<|QC<|wI<|QA (QH I qR JE)<|QA (Qg I JE .here (.skip .h1))<|QA (QH I B6 JE)<|QO (vs:=[_]) I I I JE I .u1 (.skip (.skip (.skip (.skip (.skip (.skip (.skip (.skip .h1)))))))) wO<|wG<|QB<|wE I<|QA (QJ (vs:=[_,_]) I Kv .here .h2 rfl)<|Qa I (Qw Ut) Kv NK I I (λb71=>?_)
    refine Yu (bs1:=[_,_]) (ob:=i.ob) (n:=i.i) (k:=1) (sz:=2) (news:=(pe c61)) I I Ut Kv NK I QCF i.hr (Src.row (off:=0) wk (λj q hq=>by rw[aF];rw[aG];exact hq) rfl) O O (λv hv=>by simp only[pe,bh,bp,or_false]at hv;rcases hv with rfl | rfl<;>rfl) (λv72 ob72 hr72=>?_)
    refine wF I<|QE<|Qk<|QC<|QB<|QA (Qu I I O)<|wE I<|QE ?_
    exact Ql (i.next hbt.2 hlt hv c53 c61 hr72) (by show es.length - (i.i+1)<es.length - i.i;omega) wW ((.cons _ wK)) (λF ⟨⟨⟨⟨⟨⟨⟨⟨⟨⟨⟨⟨⟨hGl,hy,hR⟩,_⟩,_⟩,_⟩,_⟩,hs31⟩,_⟩,h37⟩,h38⟩,hS⟩,h53⟩,h61⟩,hs71⟩=>⟨⟨⟨⟨⟨⟨⟨⟨⟨⟨hGl,hy,hR⟩,trivial⟩,trivial⟩,trivial⟩,trivial⟩,hs31⟩,trivial⟩,h37⟩,h38⟩,hS.next hbt.2 hlt hv hr72 h53 h61⟩)
  ·
   have hge:i.i=es.length:=by have:=wN hc2;have:=i.le;omega
   have hend:(Wb y.rs n b ((0:Int):Rat) y.vs (es.map Qs))=some i.acc:=by
    rw[i.h,ek (by rw[aa];omega)]
    show some (i.acc++[])=_
    rw[bw]
   have hal:=i.xP
   refine Qz ?_
   repeat (first | refine QW ?_ | refine QP wc ?_)
   refine QX<|QC<|wI<|wH I<|QG<|QG<|QB ?_
   have hxl:=i.len
   obtain⟨⟨rq,rn,rc⟩,hv2,hrn,hrc,hfix⟩:=Qx.fix (w0:=w) (F0:=F) (bs1:=[_]) (G:=_) i.hr
   dsimp only at hrn hrc hfix
   subst hrn
   refine YM hfix ?_
   rw[hv2]
   dsimp only[Sr.v]
   refine wE rfl<|QA (Qh rfl Ut)<|wE rfl<|wG<|QU<|JU (ι:=TbJ i.acc) [(1,_),(74,_),(75,_)] (λi2=>[(18,i2.v),(76,.int .i64 ((i2.i:Nat):Int))]) (λi2=>i2.ob) (λi2 F=>∀bx∈i2.bs,VG F bx.w bx.wl/\VG F bx.l bx.ll) (λi2=>es.length - i2.i) (⟨0,.slice none 0 0,[],[],aH _,.nil,rfl,λj h=>absurd h (bj _),rfl⟩) wQ wP (wu) (λ_ _ bx h=>by cases h) (λi2=>?_)
   simp only[ab,af]
   have hi2:=i2.le
   refine wI<|QA (QZ I I I)<|wG<|QG ?_
   refine QR I (λhc2=>?_) (λhc2=>?_)
   ·
    have hlt2:i2.i<i.acc.length:=by have:=wM hc2;omega
    have hsz:=i.sz _ (Q4 hlt2)
    have hej:=i.he i2.i O
    have hce:=hen.2 i2.i O
    refine QQ<|QC<|QG<|QU<|wJ I<|QA (Q9 (n:=i.i) (i2.i) (λF h9=>h9.1.2) rfl rfl Ut Kv O)<|QA (Ja (n:=i.i) (vs:=[.slice (el i.ms (i2.i)).1.1.q (el i.ms (i2.i)).1.1.n (el i.ms (i2.i)).1.1.cap,.slice (el i.ms (i2.i)).2.1.q (el i.ms (i2.i)).2.1.n (el i.ms (i2.i)).2.1.cap]) ((i2.i)*2) (λF h9=>h9.1.2) O rfl Kv I (λj v hv=>Jm (f:=pe) (l:=i.ms) pc O hv))<|Qb NK (λb20=>wF I<|QO (vs:=[_,_]) I I I Kv I .here .h2 wP<|wG<|QG<|K7 (r:=[0,1,2,3,4,5,6,7,8,9,10,11]) wv mixed y0 rfl<|Jp 0 y0 rfl rfl<|QK (QJ (vs:=[_,_]) I Kv .here .h2 rfl)<|JB<|Jp 1 y0 rfl rfl<|QK (QD I)<|JB<|Jp 2 y0 rfl rfl<|QK (QD I)<|JB ?_)
    refine Jp 3 y0 rfl rfl<|QK (Q9 (n:=ne) (i2.i) (λF h9=>h9.1.1.1.1.1.1.1.1.1.1.1.2.2) rfl rfl Yj XA O)<|JB<|Jp 4 y0 rfl rfl<|QK (Jd (n:=ne) ((i2.i)*1) (λF h9=>h9.1.1.1.1.1.1.1.1.1.1.1.2.2) O rfl XA (X8 (f:=tx) (l:=es) O))<|JB<|K6 (A:=[9]) (r:=[5,6,7,8,10,11]) y0<|XM 5 y0 y0 wc wv wi rfl rfl rfl (λ_=>rfl) (λw F hF h9=>kW (c:=el i.ms i2.i) (v:=(el i.acc i2.i).2.1) (u:=(el i.acc i2.i).2.2) (s:=el es i2.i) hF h9.1.1.1.1.1.1.1.1.1.1.1.1 (h9.1.1.2.ms _ O).1 (h9.1.1.2.ms _ O).2 O O hsz.2.1 hsz.2.2) (λc87=>xX 6 y0 y0 wc wv wj rfl wc (λ_=>QD I)<|xX 7 y0 y0 wc wv wj rfl wc (λ_=>QT I I)<|xX 8 y0 y0 wc wv wj rfl wc (λ_=>QT I I)<|VQ 9 (d:=21) (T:=123) y0 y0 wc wv wj y0 y0 W3 (λb21=>Z7 (vs:=[_,_,_]) 10 y0 y0 wc (.cons _ wv) wj rfl rfl (λ_=>rfl) (λ_=>rfl) rfl ZF I .here wv .h3 wQ<|xX 11 y0 y0 wc (.cons _ wv) wj rfl wc (λ_=>QF I) ?_))
    refine WO ?_ y0
    refine QC<|QG<|wJ I<|QA (QZ I I I)<|QE<|QC ?_
    refine QR I (λhc2=>?_) (λhc2=>?_)
    ·
     have hL:OF (el i.acc i2.i)=true:=by
      cases e:OF (el i.acc i2.i)with
      |true=>rfl
      |false=>rw[show(Jz (el i.acc i2.i).2.1||Jz (el i.acc i2.i).2.2)=false from e]at hc2;cases hc2
     have hany:=gI hlt2 hL
     refine wJ I<|wF I<|wH I<|QY ?_
     repeat (first | refine JA ?_ | refine Q5 ?_)
     exact JZ (((⟨none,0,0⟩,[]):Sr×List W2)) I (wC I I) (by rw[h34,ah,hend,BE,if_pos hany,show(Jz (el i.acc i2.i).2.1||Jz (el i.acc i2.i).2.2)=true from hL]<;>rfl) (λF h9=>by rw[h34,ah,hend,BE,if_pos hany,if_pos hany];exact Ld.nil F)
    ·
     have hL:(Jz (el i.acc i2.i).2.1||Jz (el i.acc i2.i).2.2)=false:=by
      cases e:(Jz (el i.acc i2.i).2.1||Jz (el i.acc i2.i).2.2)with
      |false=>rfl
      |true=>rw[e]at hc2;cases hc2
     rw[hL]
     refine QQ<|QC<|QB<|wE I<|QA (QJ (vs:=[_,_,_]) I ZF .here .h3 rfl)<|Qa I (Qw EY) ZF W3 I I (λb95=>?_)
     refine Yu (bs1:=[_,_]) (ob:=i2.ob) (n:=i2.i) (k:=1) (sz:=3) (news:=(cG ⟨el es i2.i,c87.1,L6 (el i.acc i2.i).2.1,c87.2,L6 (el i.acc i2.i).2.2⟩)) I I EY ZF W3 I QCH i2.hr (Src.row (off:=0) wk (λj q hq=>by rw[aF];rw[aG];exact hq) rfl) O O (λv hv=>by simp only[cG,bh,bp,or_false]at hv;rcases hv with rfl | rfl | rfl<;>rfl) (λv96 ob96 hr96=>?_)
     refine wF I<|QE<|Qk<|QC<|QB<|QA (Qu I I O)<|wE I<|QE ?_
     exact Ql (i2.next hlt2 ⟨el es i2.i,c87.1,L6 (el i.acc i2.i).2.1,c87.2,L6 (el i.acc i2.i).2.2⟩ hr96 hL (by show(el es i2.i,_,_)=(Je (el i.acc i2.i).1,_,_);rw[hej,<-(XT hce).1])) (by show es.length - (i2.i+1)<es.length - i2.i;omega) wS ((.cons _ (.cons _ wK))) (λF ⟨⟨⟨⟨⟨⟨⟨⟨⟨⟨⟨⟨⟨⟨hGl,hy,hR⟩,_⟩,_⟩,_⟩,_⟩,hs31⟩,_⟩,h37⟩,h38⟩,hS⟩,hrow⟩,hW⟩,h87⟩,hs95⟩=>⟨⟨⟨⟨⟨⟨⟨⟨⟨⟨⟨⟨hGl,hy,hR⟩,trivial⟩,trivial⟩,trivial⟩,trivial⟩,hs31⟩,trivial⟩,h37⟩,h38⟩,hS⟩,hrow⟩,λbx hb=>by
        rcases List.mem_append.1 hb with hb | hb
        ·exact hW bx hb
        ·rw[List.mem_singleton.1 hb];exact⟨Hy.qg h87.1,Hy.qg h87.2⟩⟩)
   ·
    have hge2:i2.i=i.acc.length:=by have:=wN hc2;have:=i2.le;omega
    have hno:i.acc.any OF=false:=xN λj hj=>i2.no j O
    refine Qz ?_
    repeat (first | refine QW ?_ | refine QP wc ?_)
    refine QX<|QC<|QG<|QB ?_
    have hxl2:=i2.len
    obtain⟨⟨rq2,rn2,rc2⟩,hv3,hrn2,hrc2,hfix2⟩:=Qx.fix (w0:=w) (F0:=F) (bs1:=[]) (G:=_) i2.hr
    dsimp only at hrn2 hrc2 hfix2
    subst hrn2
    refine YM hfix2 ?_
    rw[hv3]
    dsimp only[Sr.v]
    refine wE I<|wF I<|wH I<|QY ?_
    exact JZ (((⟨rq2,i2.i,rc2⟩,i2.bs):Sr×List W2)) I (wC I I) (by rw[h34,ah,hend,BE,hno]<;>rfl) (λF h9=>by rw[h34,ah,hend,BE,hno];exact⟨⟨h9.2,hxl2,h9.1.2⟩,by have e:=i2.d;rw[hge2,aR]at e;exact e,hrc2⟩)
theorem Cl.zero(d b:Nat):Cl Q d b 0:=⟨0,by rw[Rat.zero_divInt],we⟩
theorem Cl.one(d b:Nat)(h0:0<Q):Cl Q d b 1:=⟨((Q^d:Nat):Int),by
 have hq:((Q^d:Nat):Int)≠0:=by have:=bW (n:=d) h0;omega
 rw[Rat.divInt_self' hq],by rw[eJ];exact Nat.le_mul_of_pos_left _ (bW wa)⟩
theorem TV{P:Rat->Prop}:∀(l:List Rat) (s:Rat×Rat),P s.1->P s.2->(∀x∈l,P x)->P (l.foldl Xc s).1/\P (l.foldl Xc s).2
 |[],s,h1,h2,_=>⟨h1,h2⟩
 |x::l,s,h1,h2,h=>by
  have hx:=h x we
  exact TV l (Xc s x) (by unfold Xc;dsimp only;split<;>assumption) (by unfold Xc;dsimp only;split<;>assumption) λy hy=>h y (by simp[hy])
def VS(Q d b:Nat)(x:Rat×Rat):Prop:=Cl Q d b x.1/\Cl Q d b x.2
section
variable{Q d b e c:Nat}{x y:Rat×Rat}(h0:0<Q)
include h0
theorem VS.mono(h:VS Q d b x)(hd:d<=e)(hb:b<=c):VS Q e c x:=⟨h.1.mono h0 hd hb,h.2.mono h0 hd hb⟩
theorem VS.add(h:VS Q d b x)(k:VS Q d b y):VS Q d (b+1) (Y3 x y):=⟨h.1.add h0 k.1,h.2.add h0 k.2⟩
theorem VS.times(h:VS Q d b x)(k:VS Q e c y):VS Q (d+e) (b+c) (Jc x y):=by
 have h11:=h.1.mul h0 k.1
 have h12:=h.1.mul h0 k.2
 have h21:=h.2.mul h0 k.1
 have h22:=h.2.mul h0 k.2
 exact TV (P:=Cl Q (d+e) (b+c)) _ _ h11 h11 λz hz=>by
  simp only[bh,bp,or_false]at hz
  rcases hz with rfl | rfl | rfl<;>assumption
theorem VS.FJ(h:VS Q d b x):Xj x (b+d*sz (Q:Int)+2):=⟨h.1.JL h0,h.2.JL h0⟩
theorem VS.zero:VS Q d b (0,0):=⟨.zero d b,.zero d b⟩
def M8(Q al be d b:Nat)(a:List J4):Prop:=∀k,k<a.length->VS Q (al*k+d) (be*k+b) (el a k)
variable{al be:Nat}{a a':List J4}
theorem M8.mono{d' b':Nat}(h:M8 Q al be d b a)(hd:d<=d')(hb:b<=b'):M8 Q al be d' b' a:=λk hk=>(h k hk).mono h0 O O
theorem qc(ha:M8 Q al be d b a)(hb:M8 Q al be e c a'){k:Nat}(hk:k<a.length)(hl:a.length<=a'.length):∀i,i<=k+1->VS Q (al*k+(d+e)) (be*k+(b+c)+i) (Vf a a' k i):=by
 intro i
 induction i with
 |zero=>intro _;exact VS.zero h0
 |succ i ih =>
  intro hi
  rw[Se]
  have h1:=ih O
  have h2:=VS.times h0 (ha i O) (hb (k - i) O)
  have e1:al*i+al*(k - i)=al*k:=by rw[<-eU];congr 1;omega
  have e2:be*i+be*(k - i)=be*k:=by rw[<-eU];congr 1;omega
  exact VS.add h0 h1 (h2.mono h0 (c:=be*k+(b+c)+i) O O)
theorem zc(ha:M8 Q al be d b a)(hb:M8 Q al be e c a')(hl:a.length<=a'.length)(hL:a.length<=L):M8 Q al be (d+e) (b+c+L) (XS a a'):=λk hk=>by
 rw[Gx]at hk
 unfold XS
 rw[Xk _ hk]
 exact(qc h0 ha hb hk hl (k+1) (ag _)).mono h0 (ag _) O
theorem pO(ha:M8 Q al be d b a)(hb:M8 Q al be d b a')(hl:a.length<=a'.length):M8 Q al be d (b+1) (KK a a'):=λk hk=>by
 rw[Md]at hk
 unfold KK
 rw[Xk _ hk]
 exact VS.add h0 (ha k hk) (hb k O)
theorem vr{r:Rat}(h:Cl Q 1 b r):M8 Q al be 1 b (Ye r n):=λk hk=>by
 rw[YT]at hk
 match k,hk with
 |0,_=>show VS Q (al*0+1) (be*0+b) (r,r);rw[bf,aF,bf,aF];exact⟨h,h⟩
 |k+1,hk =>
  have e1:el (Ye r n) (k+1)=(0,0):=by rw[JK (by rw[YT];exact hk)];simp[Ye]
  rw[e1];exact VS.zero h0
theorem gD{t:J4}(h:VS Q 1 b t):M8 Q al be 1 b (Z6 t n):=λk hk=>by
 rw[Bi]at hk
 match n,k,hk with
 |0,0,_=>show VS Q (al*0+1) (be*0+b) t;rw[bf,aF,bf,aF];exact h
 |n+1,0,_=>show VS Q (al*0+1) (be*0+b) t;rw[bf,aF,bf,aF];exact h
 |n+1,1,_=>exact⟨.one _ _ h0,.one _ _ h0⟩
 |n+1,k+2,hk =>
  have e1:el (Z6 t (n+1)) (k+2)=(0,0):=by rw[JK (by rw[Bi];exact hk)];simp[Z6]
  rw[e1];exact VS.zero h0
theorem yp{y z:List J4}(hy:M8 Q al be d b y)(hz:M8 Q al be 1 B z)(hl:y.length<=z.length)(hL:y.length<=L):∀i,M8 Q al be (d+i) (b+i*(B+L)) (Dp y z i):=by
 intro i
 induction i with
 |zero=>rw[bM,er,bM];exact hy
 |succ i ih =>
  rw[Tr]
  have h1:=zc h0 (L:=L) ih hz (by rw[Ge];exact hl) (by rw[Ge];exact hL)
  refine h1.mono h0 O ?_
  rw[aU];omega
def VC(ks:List Int):Nat->Nat
 |0=>0
 |v+1=>VC ks v+(Qf ks v).toNat
omit h0 in
theorem MV(ks:List Int){v w:Nat}(h:v<=w):VC ks v<=VC ks w:=by
 induction w with
 |zero=>rw[Nat.le_zero.1 h];exact ag _
 |succ w ih =>
  rcases bT v (w+1)with g | g
  ·exact ai (ih O) (bV _ _)
  ·rw[Nat.le_antisymm h g];exact ag _
theorem kR{r:Rat}{ks:List Int}{all:List (List J4)}(hr:Cl Q 1 B r)(ha:∀v,v<all.length->M8 Q al be 1 B (el all v)/\(el all v).length=n+1)(hL:n+1<=L):∀v,v<=all.length->M8 Q al be (1+VC ks v) (B+VC ks v*(B+L)) (Wj r ks all n v):=by
 intro v
 induction v with
 |zero=>intro _;show M8 Q al be (1+0) (B+0*(B+L)) (Ye r n);rw[bM,er,bM];exact vr h0 hr
 |succ v ih =>
  intro hv
  have h1:=ha v hv
  rw[T8]
  have h2:=yp h0 (L:=L) (ih O) h1.1 (by rw[Yn,h1.2];exact ag _) (by rw[Yn];exact hL) (Qf ks v).toNat
  refine h2.mono h0 (by show 1+VC ks v+_<=1+(VC ks v+_);omega) ?_
  show B+VC ks v*(B+L)+_<=B+(VC ks v+_)*(B+L)
  rw[aU];omega
theorem U6{D:Nat}{p:List Tm}{all:List (List J4)}(hp:∀u∈p,Cl Q 1 B u.1/\VC u.2 all.length<=D)(ha:∀v,v<all.length->M8 Q al be 1 B (el all v)/\(el all v).length=n+1)(hL:n+1<=L):∀j,j<=p.length->M8 Q al be (1+D) (B+D*(B+L)+j) (Kf (p.take j) all n):=by
 intro j
 induction j with
 |zero=>intro _;exact(vr h0 (b:=0) (.zero 1 0)).mono h0 O O
 |succ j ih =>
  intro hj
  have hu:=hp _ (Q4 hj)
  rw[Rm hj]
  have h1:=kR h0 (ks:=(el p j).2) hu.1 ha hL all.length (ag _)
  have h2:VC (el p j).2 all.length*(B+L)<=D*(B+L):=ao _ hu.2
  exact pO h0 (ih O) (h1.mono h0 (b':=B+D*(B+L)+j) O O) (by rw[Y1,Yn];exact ag _)
theorem M8.FJ(h:M8 Q al be d b a)(hl:a.length<=n+1){M:Nat}(hM:be*n+b+(al*n+d)*sz (Q:Int)+2<=M):∀x∈a,Xj x M:=λx hx=>by
 obtain⟨k,hk,rfl⟩:=aL hx
 rw[<-JK hk]
 have h1:=VS.FJ h0 (h k hk)
 have h2:be*k<=be*n:=av _ O
 have h3:(al*k+d)*sz (Q:Int)<=(al*n+d)*sz (Q:Int):=ao _ (by have:al*k<=al*n:=av _ O;omega)
 exact h1.mono O
end
structure xt(Q B D T n:Nat)(rs:List (List Tm))(t:J4)(vb:List J4):Prop where
 q0:0<Q
 inv:∀k,k<n->Cl Q 1 0 ((((k+1:Nat):Int):Rat)⁻¹)
 FK:∀i,i<rs.length->∀u∈el rs i,Cl Q 1 B u.1/\VC u.2 (vb.length+1)<=D/\u.2.length=vb.length+1/\∀k∈u.2,0<=k/\k<=1000
 len:∀i,i<rs.length->(el rs i).length<=T
 tm:VS Q 1 B t
 box:∀x∈vb,VS Q 1 B x
 hn:rs.length=vb.length
theorem GI{rs:List (List Tm)}{t:J4}(k:Nat):(Z6 t k::JX rs t vb k).length=vb.length+1:=by rw[aS,ZS]
theorem Uy{D:Nat}{rs:List (List Tm)}{t:J4}(h:xt Q B D T n rs t vb):∀k,k<=n->∀i,i<vb.length->M8 Q (D+1) (D*(B+(n+1))+T) 1 B (el (JX rs t vb k) i):=by
 intro k
 induction k with
 |zero =>
  intro _ i hi
  have e1:el (JX rs t vb 0) i=[el vb i]:=by
   show el (vb.map λx=>[x]) i=_
   rw[JK (by rw[aa];exact hi),aW,JK hi]
  rw[e1]
  intro j hj
  have hj0:j=0:=by simpa using hj
  subst hj0
  rw[bf,aF,bf,aF]
  exact h.box _ (Q4 hi)
 |succ k ih =>
  intro hk i hi
  have ih:=ih O
  have e1:el (JX rs t vb (k+1)) i=el (JX rs t vb k) i++[Jc (el (Kf (el rs i) (Z6 t k::JX rs t vb k) k) k) ((((k+1:Nat):Int):Rat)⁻¹,(((k+1:Nat):Int):Rat)⁻¹)]:=by
   rw[JX,Xk _ hi]
  have hl:(el (JX rs t vb k) i).length=k+1:=YD rs t vb k hi
  have ha:∀v,v<(Z6 t k::JX rs t vb k).length->M8 Q (D+1) (D*(B+(n+1))+T) 1 B (el (Z6 t k::JX rs t vb k) v)/\(el (Z6 t k::JX rs t vb k) v).length=k+1:=λv hv=>by
   rw[GI]at hv
   match v,hv with
   |0,_=>exact⟨gD h.q0 h.tm,Bi t k⟩
   |v+1,hv=>exact⟨ih v O,YD rs t vb k O⟩
  rw[e1]
  intro j hj
  rw[aC,hl]at hj
  rcases bT j (k+1)with g | g
  ·rw[Al O];exact ih i hi j O
  ·have hjk:j=k+1:=by simp at hj;omega
   subst hjk
   rw[Hd hl]
   have hir:i<rs.length:=by rw[h.hn];exact hi
   have h1:=U6 h.q0 (L:=n+1) (D:=D) (p:=el rs i) (λu hu=>⟨(h.FK i hir u hu).1,by rw[GI];exact(h.FK i hir u hu).2.1⟩) ha O (el rs i).length (ag _)
   rw[aR]at h1
   have h2:=h1 k (by rw[Y1];omega)
   have hT:=h.len i hir
   have h3:=VS.times h.q0 h2 (y:=((((k+1:Nat):Int):Rat)⁻¹,(((k+1:Nat):Int):Rat)⁻¹)) ⟨h.inv k O,h.inv k O⟩
   refine h3.mono h.q0 ?_ ?_
   ·rw[bL];omega
   ·rw[bL];omega
theorem Ay{D:Nat}{rs:List (List Tm)}{t:J4}(h:xt Q B D T n rs t vb){k:Nat}(hk:k<=n):∀v,v<(Z6 t k::JX rs t vb k).length->M8 Q (D+1) (D*(B+(n+1))+T) 1 B (el (Z6 t k::JX rs t vb k) v)/\(el (Z6 t k::JX rs t vb k) v).length=k+1:=λv hv=>by
 rw[GI]at hv
 match v,hv with
 |0,_=>exact⟨gD h.q0 h.tm,Bi t k⟩
 |v+1,hv=>exact⟨Uy h k hk v O,YD rs t vb k O⟩
def tyM(Q B D T n:Nat):Nat:=(D*(B+(n+1))+T)*n+(2*B+D*(B+(n+1))+T+n+1)+((D+1)*n+(D+2))*sz (Q:Int)+2
theorem xt.ok{D:Nat}{rs:List (List Tm)}{t:J4}(h:xt Q B D T n rs t vb)(hM:tyM Q B D T n<=20000000):FB rs t vb n:=by
 unfold tyM at hM
 have hq:∀u w:Nat,u<=w->u*sz (Q:Int)<=w*sz (Q:Int):=λu w g=>ao _ g
 have hm:∀k,k<n->∀i,i<rs.length->∀u∈el rs i,∀v,v<=vb.length+1->M8 Q (D+1) (D*(B+(n+1))+T) (1+VC u.2 v) (B+VC u.2 v*(B+(n+1))) (Wj u.1 u.2 (Z6 t k::JX rs t vb k) k v):=λk hk i hi u hu v hv =>
  kR h.q0 (L:=n+1) (h.FK i hi u hu).1 (Ay h O) O v (by rw[GI];exact hv)
 have hs:∀i,i<rs.length->∀u∈el rs i,∀v,v<=vb.length+1->VC u.2 v<=D/\VC u.2 v*(B+(n+1))<=D*(B+(n+1)):=λi hi u hu v hv=>by
  have h1:=ai (MV u.2 hv) (h.FK i hi u hu).2.1
  exact⟨h1,ao _ h1⟩
 refine⟨λk hk i hi u hu=>⟨⟨by rw[GI];exact(h.FK i hi u hu).2.2.1,(h.FK i hi u hu).2.2.2⟩,λv hv j hj=>?_⟩,λk hk i hi u hu=>?_,λk hk i hi j=>?_,λk hk i hi=>?_⟩
 ·rw[(h.FK i hi u hu).2.2.1]at hv
  have h1:=hm k hk i hi u hu v O
  have h2:=Ay h (k:=k) O v (by rw[GI];exact hv)
  have h3:=yp h.q0 (L:=n+1) h1 h2.1 (by rw[Yn,h2.2];exact ag _) (by rw[Yn];omega) j
  have h4:=hs i hi u hu (v+1) hv
  have h5:VC u.2 v+j<=VC u.2 (v+1):=by show _<=VC u.2 v+_;omega
  have h6:VC u.2 v*(B+(n+1))+j*(B+(n+1))<=D*(B+(n+1)):=by rw[<-aU];exact ao _ O
  have h7:=h3.mono h.q0 (d':=1+D) (b':=B+D*(B+(n+1))) O O
  have hlen:(Dp (Wj u.1 u.2 (Z6 t k::JX rs t vb k) k v) (el (Z6 t k::JX rs t vb k) v) j).length=k+1:=by rw[Ge,Yn]
  have q1:=hq ((D+1)*n+(1+D)) ((D+1)*n+(D+2)) O
  have q2:=hq ((D+1)*n+1) ((D+1)*n+(D+2)) O
  have q3:=hq ((D+1)*n+(1+D+1)) ((D+1)*n+(D+2)) O
  refine⟨λm hmk=>⟨?_,?_⟩,λm hmk i2 hi2=>?_⟩
  ·exact h7.FJ h.q0 (n:=n) O O _ (Q4 hmk)
  ·exact h2.1.FJ h.q0 (n:=n) O O _ (Q4 O)
  ·have h8:=VS.FJ h.q0 (qc h.q0 h7 h2.1 hmk O i2 hi2)
   refine h8.mono ?_
   have g1:(D*(B+(n+1))+T)*m<=(D*(B+(n+1))+T)*n:=av _ O
   have g2:((D+1)*m+(1+D+1))*sz (Q:Int)<=((D+1)*n+(1+D+1))*sz (Q:Int):=hq _ _ (by have:(D+1)*m<=(D+1)*n:=av _ O;omega)
   omega
 ·have h1:=hm k hk i hi u hu (vb.length+1) (ag _)
  have h4:=hs i hi u hu (vb.length+1) (ag _)
  have q1:=hq ((D+1)*n+(1+D)) ((D+1)*n+(D+2)) O
  exact(h1.mono h.q0 (d':=1+D) (b':=B+D*(B+(n+1))) O O).FJ h.q0 (n:=n) (by rw[Yn];omega) O
 ·have q1:=hq ((D+1)*n+(1+D)) ((D+1)*n+(D+2)) O
  have hT:=h.len i hi
  have hj:(el rs i).take j=(el rs i).take (min j (el rs i).length):=by rw[ew]
  rw[hj]
  have h1:=U6 h.q0 (L:=n+1) (D:=D) (p:=el rs i) (n:=k) (λu hu=>⟨(h.FK i hi u hu).1,by rw[GI];exact(h.FK i hi u hu).2.1⟩) (Ay h O) O (min j (el rs i).length) (bI _ _)
  exact h1.FJ h.q0 (n:=n) (by rw[Y1];omega) (by have:=bI j (el rs i).length;omega)
 ·have q1:=hq ((D+1)*n+(1+D)) ((D+1)*n+(D+2)) O
  have hT:=h.len i hi
  have h1:=U6 h.q0 (L:=n+1) (D:=D) (p:=el rs i) (n:=k) (λu hu=>⟨(h.FK i hi u hu).1,by rw[GI];exact(h.FK i hi u hu).2.1⟩) (Ay h O) O (el rs i).length (ag _)
  rw[aR]at h1
  exact h1.FJ h.q0 (n:=n) (by rw[Y1];omega) O _ (Q4 (by rw[Y1];omega))
theorem cj:JL 0<=2:=wa
theorem IC{a:Rat×Rat}{n:Int}(ha:Xj a m):Xj (Kz a n) (n.toNat*m+1):=by
 have h1:JL (a.1^n.toNat)<=n.toNat*m+1:=ai (VT _ _) (eE (av _ ha.1) _)
 have h2:JL (a.2^n.toNat)<=n.toNat*m+1:=ai (VT _ _) (eE (av _ ha.2) _)
 have h3:=Bk (r:=a.1^n.toNat) (l:=[a.2^n.toNat]) h1 (λx hx=>by rw[List.mem_singleton.1 hx];exact h2)
 refine⟨?_,h3.2⟩
 unfold Kz
 dsimp only
 split
 ·exact ai (show JL 0<=1 by decide) (bZ _ _)
 ·exact h3.1
structure cK(Z D T m:Nat)(p:List Tm):Prop where
 len:p.length<=T
 FK:∀u∈p,JL u.1<=Z
 sum:∀u∈p,VC u.2 m<=D
 pl:∀u∈p,u.2.length=m
 pw:∀u∈p,∀k∈u.2,0<=k/\k<=12
theorem zT{D:Nat}{p:List Tm}(h:cK Z D T m p)(hb:bs.length=m)(hS:∀x∈bs,Xj x S){u:Tm}(hu:u∈p):∀i,i<=m->Xj (Vo (u.1,u.1) bs u.2 i) (Z+VC u.2 i*(S+1)):=by
 intro i
 induction i with
 |zero=>intro _;show Xj (u.1,u.1) (Z+0*(S+1));exact⟨ai (h.FK u hu) O,ai (h.FK u hu) O⟩
 |succ i ih =>
  intro hi
  have ih:=ih O
  rw[WS]
  show Xj _ (Z+(VC u.2 i+(Qf u.2 i).toNat)*(S+1))
  rw[aU]
  split
  ·rename_i hg
   have h1:=IC (n:=Qf u.2 i) (hS _ (Q4 (show i<bs.length by omega)))
   have h2:=VI ih h1
   refine h2.mono ?_
   have h3:1<=(Qf u.2 i).toNat:=O
   rw[bL (Qf u.2 i).toNat];omega
  ·exact ih.mono O
theorem qS{D:Nat}{p:List Tm}(h:cK Z D T m p)(hb:bs.length=m)(hS:∀x∈bs,Xj x S):∀k,k<=p.length->Xj (J8 bs (p.take k)) (2+k*(Z+D*(S+1)+2)):=by
 intro k
 induction k with
 |zero=>intro _;exact⟨ai cj (bV _ _),ai cj (bV _ _)⟩
 |succ k ih =>
  intro hk
  have ih:=ih O
  have hu:=Q4 (show k<p.length by omega)
  have h1:=zT h hb hS hu (el p k).2.length (by rw[h.pl _ hu];exact ag _)
  have h2:VC (el p k).2 (el p k).2.length*(S+1)<=D*(S+1):=ao _ (by rw[h.pl _ hu];exact h.sum _ hu)
  rw[SS hk]
  have h3:=KU (J8 bs (p.take k)).1 (Vo ((el p k).1,(el p k).1) bs (el p k).2 (el p k).2.length).1
  have h4:=KU (J8 bs (p.take k)).2 (Vo ((el p k).1,(el p k).1) bs (el p k).2 (el p k).2.length).2
  rw[aU]
  exact⟨by show JL (_+_)<=_;have:=ih.1;have:=h1.1;omega,by show JL (_+_)<=_;have:=ih.2;have:=h1.2;omega⟩
def jx(Z D T S:Nat):Nat:=2+T*(Z+D*(S+1)+2)
theorem Gl{D:Nat}{p:List Tm}(h:cK Z D T m p)(hb:bs.length=m)(hS:∀x∈bs,Xj x S):Xj (J8 bs p) (jx Z D T S):=by
 have h1:=qS h hb hS p.length (ag _)
 rw[aR]at h1
 have h2:p.length*(Z+D*(S+1)+2)<=T*(Z+D*(S+1)+2):=ao _ h.len
 exact h1.mono (by unfold jx;omega)
theorem dm(ks:List Int){j m:Nat}(h:j<m):(Qf ks j).toNat<=VC ks m:=ai (show _<=VC ks (j+1)from bZ _ _) (MV ks h)
theorem E4{D:Nat}{p:List Tm}(h:cK Z D T m p)(hb:bs.length=m)(hm:m<=1000)(hS:∀x∈bs,Xj x S)(hS1:S<=1000000)(hZ:Z<=1000000)(hM:jx Z D T S<=10000000)(hD:Z+D*(S+1)+1<=10000000):CY bs p:=by
 refine⟨λx hx=>(hS x hx).mono hS1,λu hu=>ai (h.FK u hu) hZ,λu hu=>⟨by rw[h.pl u hu,hb];exact ag _,by rw[h.pl u hu];exact hm,h.pw u hu⟩,λu hu i hi=>?_,λu hu i hi=>?_,λk=>?_⟩
 ·rw[h.pl u hu]at hi
  have h1:=zT h hb hS hu i hi
  have h2:VC u.2 i*(S+1)<=D*(S+1):=ao _ (ai (MV u.2 hi) (h.sum u hu))
  exact h1.mono O
 ·rw[h.pl u hu]at hi
  have h1:=IC (n:=Qf u.2 i) (hS _ (Q4 (show i<bs.length by omega)))
  have h2:(Qf u.2 i).toNat*S<=D*(S+1):=aY (ai (dm u.2 hi) (h.sum u hu)) O
  exact h1.mono O
 ·rw[ew]
  have h1:=qS h hb hS (min k p.length) (bI _ _)
  have h2:min k p.length*(Z+D*(S+1)+2)<=T*(Z+D*(S+1)+2):=ao _ (ai (bI _ _) h.len)
  unfold jx at hM
  exact h1.mono O
theorem kQ{rs:List (List Tm)}(h:i<x.length):el (Zp rs fr t2 x on) i=Y3 (el x i) (Jc (0,t2 - fr) (J8 ((fr,t2)::on) (el rs i))):=by unfold Zp;rw[Xk _ h]
structure MvC(Z D T m St:Nat)(rs:List (List Tm))(fr t2:Rat):Prop where
 po:∀i,i<rs.length->cK Z D T (m+1) (el rs i)
 hn:rs.length=m
 f:JL fr<=St
 t:JL t2<=St
theorem Oj{D St X:Nat}{rs:List (List Tm)}(h:MvC Z D T m St rs fr t2)(hx:x.length=m)(ho:on.length=m)(hX:∀v∈x,Xj v X)(hS:∀v∈on,Xj v S)(hSt:St<=S):∀v∈Zp rs fr t2 x on,Xj v (X+(2*St+1+jx Z D T S)+1):=λv hv=>by
 obtain⟨i,hi,rfl⟩:=aL hv
 rw[YJ]at hi
 rw[<-JK (by rw[YJ];exact hi),kQ hi]
 have hir:i<rs.length:=by rw[h.hn];omega
 have h1:=Gl (h.po i hir) (bs:=(fr,t2)::on) (by rw[aS,ho]) (λy hy=>by
  rcases List.mem_cons.1 hy with rfl | hy
  ·exact⟨ai h.f hSt,ai h.t hSt⟩
  ·exact hS y hy)
 have h2:=Bs t2 fr
 have hf:=h.f
 have ht:=h.t
 have h3:Xj ((0:Rat),t2 - fr) (2*St+1):=⟨ai (show JL 0<=1 by decide) (bZ _ _),by show JL (t2 - fr)<=_;omega⟩
 have h4:=VI h3 h1
 have h5:=hX _ (Q4 hi)
 have h6:=KU (el x i).1 (Jc (0,t2 - fr) (J8 ((fr,t2)::on) (el rs i))).1
 have h7:=KU (el x i).2 (Jc (0,t2 - fr) (J8 ((fr,t2)::on) (el rs i))).2
 exact⟨by show JL (_+_)<=_;have:=h4.1;have:=h5.1;omega,by show JL (_+_)<=_;have:=h4.2;have:=h5.2;omega⟩
theorem AJ{D St X:Nat}{rs:List (List Tm)}(h:MvC Z D T m St rs fr t2)(hx:x.length=m)(ho:on.length=m)(hX:∀v∈x,Xj v X)(hS:∀v∈on,Xj v S)(hSt:St<=S)(hm:m<=900)(hS1:S<=1000000)(hX1:X<=10000000)(hZ:Z<=1000000)(hM:jx Z D T S<=10000000)(hD:Z+D*(S+1)+1<=10000000):gY rs fr t2 x on:=by
 have hb:∀y∈(fr,t2)::on,Xj y S:=λy hy=>by
  rcases List.mem_cons.1 hy with rfl | hy
  ·exact⟨ai h.f hSt,ai h.t hSt⟩
  ·exact hS y hy
 exact⟨λi hi=>E4 (h.po i hi) (by rw[aS,ho]) O hb hS1 hZ hM hD,λi hi=>(Gl (h.po i hi) (by rw[aS,ho]) hb).mono hM,⟨ai h.f O,ai h.t O⟩,λa ha=>(hX a ha).mono hX1⟩
theorem dZ{D St X:Nat}{rs:List (List Tm)}(h:MvC Z D T m St rs fr t2)(hx:x.length=m)(hX:∀v∈x,Xj v X)(hSt:St<=X)(hSt2:St<=2400)(hm:m<=900)(hX1:X<=900000)(hZ:Z<=900000)(hM:jx Z D T X<=900000)(hM2:jx Z D T 2400<=900000)(hD:Z+D*(X+1)+1<=10000000)(hD2:Z+D*(2400+1)+1<=10000000):CP rs fr t2 x:=by
 refine⟨λa ha=>(hX a ha).mono O,AJ h hx hx hX hX hSt hm O O O O hD,λa ha=>(Oj h hx hx hX hX hSt a ha).mono O,λv hv hs=>AJ h hx O hX hs hSt2 hm O O O O hD2,λv hv hs a ha=>(Oj h hx O hX hs hSt2 a ha).mono O⟩
theorem FB.less{rs:List (List Tm)}{t:Rat×Rat}{vb:List (Rat×Rat)}(h:FB rs t vb n)(hm:m<=n):FB rs t vb m :=
 ⟨λk hk=>h.tm k O,λk hk=>h.mn k O,λk hk=>h.sm k O,λk hk=>h.cf k O⟩
theorem Cl.pow{b:Nat}{x:Rat}(h0:0<Q)(h:Cl Q 1 b x):∀k,Cl Q k (k*b) (x^k)
 |0=>by rw[ba,er];exact .one 0 0 h0
 |k+1=>by
  rw[bc,aU,Nat.one_mul]
  exact(Cl.pow h0 h k).mul h0 h
theorem VS.pt{d b:Nat}{x:Rat}(h:Cl Q d b x):VS Q d b (x,x):=⟨h,h⟩
def bE(B D T n:Nat):Nat:=D*(B+(n+1+1))+T+(B+1)
theorem z7{D:Nat}{rs:List (List Tm)}(hc:xt Q B D T (n+1) rs (fr,fr) x)(hh:Cl Q 1 (B+1) h){i:Nat}(hi:i<x.length):∀k,k<=n+1->VS Q ((D+2)*n+1) (bE B D T n*n+B+k) (Ww (el (JX rs (fr,fr) x n) i) h k):=by
 intro k
 induction k with
 |zero=>intro _;exact VS.zero hc.q0
 |succ k ih =>
  intro hk
  have ih:=ih O
  have h1:=Uy hc n O i hi k (by rw[YD rs _ x n hi];exact hk)
  have h2:=VS.times hc.q0 h1 (.pt (hh.pow hc.q0 k))
  rw[MU]
  refine VS.add hc.q0 ih (h2.mono hc.q0 (e:=(D+2)*n+1) (c:=bE B D T n*n+B+k) ?_ ?_)
  ·have e:(D+1)*k+1+k=(D+2)*k+1:=by rw[show D+2=D+1+1 from rfl,aU (D+1) 1];omega
   rw[e]
   have:(D+2)*k<=(D+2)*n:=av _ O
   omega
  ·have e:(D*(B+(n+1+1))+T)*k+B+k*(B+1)=bE B D T n*k+B:=by unfold bE;rw[aU (D*(B+(n+1+1))+T),eu k];omega
   have:bE B D T n*k<=bE B D T n*n:=av _ O
   show(D*(B+(n+1+1))+T)*k+B+k*(B+1)<=_
   omega
def gp(D n:Nat):Nat:=(D+2)*(n+1)+1
def zh(B D T n:Nat):Nat:=bE B D T n*(n+1)+B+(n+1)
theorem uG{D:Nat}{rs:List (List Tm)}{t:Rat×Rat}(hc:xt Q B D T (n+1) rs t on)(hh:Cl Q 1 (B+1) h){i:Nat}(hi:i<on.length):VS Q (gp D n) (zh B D T n) (Jc (el (el (JX rs t on (n+1)) i) (n+1)) (h^(n+1),h^(n+1))):=by
 have h1:=Uy hc (n+1) (ag _) i hi (n+1) (by rw[YD rs _ on (n+1) hi];omega)
 have h2:=VS.times hc.q0 h1 (.pt (hh.pow hc.q0 (n+1)))
 refine h2.mono hc.q0 ?_ ?_
 ·unfold gp;rw[show D+2=D+1+1 from rfl,aU (D+1) 1];omega
 ·unfold zh bE;rw[aU (D*(B+(n+1+1))+T),eu (n+1) (B+1)];omega
theorem zf{rs:List (List Tm)}(h:i<x.length):el (Zn rs fr t2 x on n) i=Y3 (Ww (el (JX rs (fr,fr) x n) i) (t2 - fr) (n+1)) (Jc (el (el (JX rs (fr,t2) on (n+1)) i) (n+1)) ((t2 - fr)^(n+1),(t2 - fr)^(n+1))):=by unfold Zn;rw[Xk _ h]
theorem zg{D:Nat}{rs:List (List Tm)}(hx:xt Q B D T (n+1) rs (fr,fr) x)(ho:xt Q B D T (n+1) rs (fr,t2) on)(hh:Cl Q 1 (B+1) (t2 - fr))(hl:on.length=x.length):∀s∈Zn rs fr t2 x on n,VS Q (gp D n) (zh B D T n+1) s:=λs hs=>by
 have hlen:(Zn rs fr t2 x on n).length=x.length:=by simp[Zn]
 obtain⟨i,hi,rfl⟩:=aL hs
 rw[<-JK hi]
 rw[hlen]at hi
 rw[zf hi]
 have h1:=z7 hx hh hi (n+1) (ag _)
 have h2:=uG ho hh (i:=i) O
 refine VS.add hx.q0 (h1.mono hx.q0 ?_ ?_) h2
 ·unfold gp;rw[bL];omega
 ·unfold zh;rw[bL];omega
def OE(Q B D T n:Nat):Nat:=zh B D T n+1+gp D n*sz (Q:Int)+2
theorem Ci{Q D:Nat}{rs:List (List Tm)}(hx:xt Q B D T (n+1) rs (fr,fr) x)(ho:xt Q B D T (n+1) rs (fr,t2) on)(hh:Cl Q 1 (B+1) (t2 - fr))(hl:on.length=x.length)(hM:tyM Q B D T (n+1)<=10000000)(hT:OE Q B D T n<=10000000)(hB:B+sz (Q:Int)<=900000):gT rs fr t2 x on n/\∀s∈Zn rs fr t2 x on n,Xj s 10000000:=by
 have hM0:=hM
 unfold tyM at hM0
 have hs:=hx.q0
 have q1:((D+1)*(n+1)+1)*sz (Q:Int)<=((D+1)*(n+1)+(D+2))*sz (Q:Int):=ao _ O
 have sz1:∀(t:Rat×Rat) (y:List (Rat×Rat)),xt Q B D T (n+1) rs t y->∀m,m<=n+1->∀i,i<y.length->∀k,k<=m->Xj (el (el (JX rs t y m) i) k) 10000000:=λt y hy m hm i hi k hk =>
  (Uy hy m hm i hi).FJ hs (n:=n+1) (by rw[YD rs _ y m hi];omega) O _ (Q4 (by rw[YD rs _ y m hi];omega))
 refine⟨⟨(hx.ok O).less O,ho.ok O,λi hi k hk=>sz1 _ x hx n O i hi k hk,λi hi=>sz1 _ on ho (n+1) (ag _) i O (n+1) (ag _),λi hi k hk=>?_,λk hk=>?_,?_,?_⟩,λs hs2=>?_⟩
 ·have h1:=(z7 hx hh hi k hk).FJ hs
  refine h1.mono ?_
  unfold OE zh gp at hT
  have g1:bE B D T n*n<=bE B D T n*(n+1):=av _ O
  have g2:((D+2)*n+1)*sz (Q:Int)<=((D+2)*(n+1)+1)*sz (Q:Int):=ao _ (by have:(D+2)*n<=(D+2)*(n+1):=av _ O;omega)
  omega
 ·have h1:=(hh.pow hs k).JL hs
  unfold OE zh gp bE at hT
  have g1:k*(B+1)<=(D*(B+(n+1+1))+T+(B+1))*(n+1):=by rw[eu k];exact aY O hk
  have g2:k*sz (Q:Int)<=((D+2)*(n+1)+1)*sz (Q:Int):=ao _ (by rw[aU];omega)
  omega
 ·have h1:=hh.JL hs
  omega
 ·have h1:=hx.tm.1.JL hs
  have h2:=ho.tm.2.JL hs
  dsimp only at h1 h2
  exact⟨O,O⟩
 ·have h1:=(zg hx ho hh hl s hs2).FJ hs
  refine h1.mono ?_
  unfold OE at hT;omega
theorem I1(a b:J4):Oz a b=true↔b.1<=a.1/\a.2<=b.2:=by
 unfold Oz
 rw[Bool.and_eq_true,decide_eq_true_eq,decide_eq_true_eq]
 have h:∀x y:Rat,Ks x y<=0↔x<=y:=λx y=>by unfold Ks;split<;>(try split)<;>grind
 rw[h,h]
theorem B3(a b:List J4):AX a b=true↔∀i,i<a.length->(el b i).1<=(el a i).1/\(el a i).2<=(el b i).2:=by
 unfold AX
 rw[List.all_eq_true]
 exact⟨λh i hi=>(I1 _ _).1 (h i (List.mem_range.2 hi)),λh i hi=>(I1 _ _).2 (h i (List.mem_range.1 hi))⟩
theorem uN{a b c:List J4}(h:X0 a b)(k:AX b c=true):AX a c=true:=by
 rw[B3]at k ⊢
 intro i hi
 obtain⟨h1,h2,h3⟩:=h.2 i hi
 obtain⟨k1,k2⟩:=k i (h.1 ▸ hi)
 exact⟨aA k1 h1,aA h3 k2⟩
theorem Fi{a b:List J4}(h:X0 a b)(r:Rat):∀i,i<=a.length->Xi (Ww a r i) (Ww b r i)
 |0,_=>Xi.pt 0
 |i+1,hi=>by
  unfold Ww
  rw[aI,az,az]
  exact MG (Fi h r i O) (WT (h.2 i O) (Xi.pt _))
theorem QDm{rs:List (List Tm)}{x y on:List J4}(h:X0 x y)(ho:on.length=x.length)(ht:fr<=t2)(hs:∀i,i<on.length->(el on i).1<=(el on i).2)(n:Nat):
  X0 (Zn rs fr t2 x on n) (Zn rs fr t2 y on n):=by
 unfold Zn
 rw[<-h.1]
 have h1:=EN (rs:=rs) (Xi.pt fr) h n
 have h2:=EN (rs:=rs) (t:=(fr,t2)) (u:=(fr,t2)) (Xi.self ht) (x:=on) (y:=on) ⟨rfl,λi hi=>Xi.self (hs i hi)⟩ (n+1)
 refine X0.of λi hi=>MG (Fi (h1.2 i (by rw[ZS];exact hi)).2 _ (n+1) (by rw[YD _ _ _ _ hi];exact ag _)) (WT ?_ (Xi.pt _))
 have h3:=h2.2 i (by rw[ZS,ho];exact hi)
 exact h3.2.2 (n+1) (by rw[h3.1];omega)
theorem gv{rs:List (List Tm)}{x y:List J4}(h:X0 x y)(ht:fr<=t2)(k:Nat):Fl (k+1) (JX rs (fr,fr) x k) (JX rs (fr,t2) y k) :=
 EN (show Xi (fr,fr) (fr,t2)from⟨ak,ak,ht⟩) h k
theorem QEC{a:J4}{j:Nat}(h:a.1<=a.2)(hi:i<5)(hj:j<5):
  Xi (a.1+(a.2 - a.1)*aw i 10,(a.1+(a.2 - a.1)*aw i 10)+(a.2 - a.1)*aw j 10) a:=by
 have hw:0<=a.2 - a.1:=by grind
 have q:∀n:Nat,n<5->0<=aw n 10/\aw n 10<=aw 4 10:=λn hn=>by
  have:n=0\/n=1\/n=2\/n=3\/n=4:=O
  rcases this with rfl | rfl | rfl | rfl | rfl<;>decide +kernel
 obtain⟨i1,i2⟩:=q i hi
 obtain⟨j1,j2⟩:=q j hj
 have e:aw 4 10+aw 4 10<=1:=wb
 have m1:=aj hw i1
 have m2:=aj hw j1
 have m3:(a.2 - a.1)*(aw i 10+aw j 10)<=(a.2 - a.1)*1:=aN (by grind) hw
 rw[Rat.mul_add,aQ]at m3
 refine⟨?_,?_,?_⟩<;>grind
theorem qH{x y z:Rat}(h:0<z):x<=y / z↔x*z<=y:=by
 have e:y / z*z=y:=by rw[aD,aK,aJ z (by grind),aQ]
 constructor
 ·intro k;have:=ae k (aB h);rwa [e]at this
 ·intro k
  refine Rat.not_lt.1 λg=>?_
  have:=aZ g h
  rw[e]at this
  exact Rat.not_lt.2 k this
theorem qW{x y z:Rat}(h:0<z):y / z<=x↔y<=x*z:=by
 have e:y / z*z=y:=by rw[aD,aK,aJ z (by grind),aQ]
 constructor
 ·intro k;have:=ae k (aB h);rwa [e]at this
 ·intro k
  refine Rat.not_lt.1 λg=>?_
  have:=aZ g h
  rw[e]at this
  exact Rat.not_lt.2 k this
theorem QD0{a l u:Rat}(ha:0<a)(hh:0<=h)(hl:l<=x0)(hu:x0+h*(a*(u*u))<=u)(hv:x0+h*(a*(x0*x0))<=u){s:Rat}(h0:0<=s)(hs:s<=h):
  0<1 - a*x0*s/\l<=x0 / (1 - a*x0*s)/\x0 / (1 - a*x0*s)<=u:=by
 have sq:∀y:Rat,0<=y*y:=λy=>by
  rcases eP (a:=0) (b:=y)with g | g
  ·exact aj g g
  ·have:=aj (show 0<=-y by grind) (show 0<=-y by grind);grind
 have hau:0<=h*(a*(u*u)):=aj hh (aj (aB ha) (sq u))
 have hax:0<=h*(a*(x0*x0)):=aj hh (aj (aB ha) (sq x0))
 rcases eP (a:=0) (b:=x0)with g | g
 ·
  have hu0:0<=u:=by grind
  have q0:0<=a*x0*s:=aj (aj (aB ha) g) h0
  by_cases e:x0=0
  ·subst e
   refine⟨by grind,?_,?_⟩<;>rw[aD,bC]<;>assumption
  ·have gx:0<x0:=by grind
   have gu:0<u:=by grind
   have k1:h*a*u<1:=by
    refine Rat.not_le.1 λk=>?_
    have:=ae k hu0
    grind
   have k2:a*x0*s<=h*a*u:=by
    have m1:a*x0*s<=a*x0*h:=aN hs (aj (aB ha) g)
    have m2:a*h*x0<=a*h*u:=aN (by grind) (aj (aB ha) hh)
    grind
   have kp:0<1 - a*x0*s:=by grind
   refine⟨kp,?_,?_⟩
   ·refine aA hl ?_
    rw[qH kp]
    have:=aj g q0
    grind
   ·rw[qW kp]
    have m0:0<=a*s*u:=aj (aj (aB ha) h0) hu0
    have m1:x0*(1+a*s*u)<=(u - h*(a*(u*u)))*(1+a*s*u):=ae (by grind) (by grind)
    have m2:a*s*u<=a*h*u:=ae (aN hs (aB ha)) hu0
    have m3:0<=u*(1 - h*a*u):=aj hu0 (by grind)
    have m4:u*(1 - h*a*u)*(a*s*u)<=u*(1 - h*a*u)*(a*h*u):=aN m2 m3
    have m5:0<=u*((h*a*u)*(h*a*u)):=aj hu0 (sq _)
    grind
 ·
  have q0:0<=a*(-x0)*s:=aj (aj (aB ha) (by grind)) h0
  have kp:0<1 - a*x0*s:=by grind
  refine⟨kp,?_,?_⟩
  ·refine aA hl ?_
   rw[qH kp]
   have:=aj (show 0<=-x0 by grind) q0
   grind
  ·refine aA ?_ hv
   rw[qW kp]
   have m1:s*(a*(x0*x0))<=h*(a*(x0*x0)):=ae hs (aj (aB ha) (sq x0))
   have m2:(x0+s*(a*(x0*x0)))*(1 - a*x0*s)<=(x0+h*(a*(x0*x0)))*(1 - a*x0*s):=ae (by grind) (aB kp)
   have m3:0<=(-x0)*((a*x0*s)*(a*x0*s)):=aj (by grind) (sq _)
   grind
theorem QGH{a:Rat}{W:J4}(hW:W.1<=W.2)(hh:0<=h)(H:∀y s,Zc y W->0<=s->s<=h->Zc (x0+s*(a*(y*y))) W){s:Rat}(h0:0<=s)(hs:s<=h):
  0<1 - a*x0*s/\Zc (x0 / (1 - a*x0*s)) W:=by
 have e1:Zc W.2 W:=⟨hW,ak⟩
 have e0:Zc W.1 W:=⟨ak,hW⟩
 have x0W:Zc x0 W:=by have:=H W.2 0 e1 ak hh;rwa [bC,ep]at this
 by_cases ha:0<a
 ·obtain⟨k1,k2,k3⟩:=QD0 ha hh x0W.1 (H W.2 h e1 hh ak).2 (H x0 h x0W hh ak).2 h0 hs
  exact⟨k1,k2,k3⟩
 ·by_cases e:a=0
  ·subst e
   refine⟨by grind,?_⟩
   rw[show(1:Rat) - 0*x0*s=1 by grind,aD,show((1:Rat))⁻¹=1 by decide +kernel,aQ]
   exact x0W
  ·have c1:=(H W.1 h e0 hh ak).1
   have c2:=(H x0 h x0W hh ak).1
   obtain⟨k1,k2,k3⟩:=QD0 (a:=-a) (x0:=-x0) (h:=h) (l:=-W.2) (u:=-W.1) (by grind) hh (by have:=x0W.2;grind) (by grind) (by grind) h0 hs
   have e : -a * -x0*s=a*x0*s:=by grind
   rw[e]at k1 k2 k3
   have e2 : -x0 / (1 - a*x0*s) = -(x0 / (1 - a*x0*s)):=by rw[aD,aD,eD]
   rw[e2]at k2 k3
   exact⟨k1,by grind,by grind⟩
theorem LI(a:Rat)(u y:Rat):vL [u,y] [(a,[0,2])]=a*(y*y):=by
 simp[vL,Ul,el,Qf,aE,List.range.loop]
 grind
theorem DH{x y:Rat}{a b:J4}(hx:Zc x a)(hy:Zc y b):Zc (x+y) (Y3 a b):=by
 obtain⟨h1,h2⟩:=hx;obtain⟨k1,k2⟩:=hy
 constructor<;>(unfold Y3;grind)
def Yl(a:Rat):List (List Tm):=[[(a,[0,2])]]
theorem F4{a:Rat}{X W:J4}(hx:Zc x0 X)(hW:W.1<=W.2)(ht:fr<=t2)(hg:AX (Zp (Yl a) fr t2 [X] [W]) [W]=true){s:Rat}(h0:0<=s)(hs:s<=t2 - fr):
  0<1 - a*x0*s/\Zc (x0 / (1 - a*x0*s)) W:=by
 refine QGH hW (h:=t2 - fr) (by grind) (λy s hy h0 hs=>?_) h0 hs
 rw[B3]at hg
 have hg:=hg 0 (by simp[Zp])
 have e:el (Zp (Yl a) fr t2 [X] [W]) 0=Y3 X (Jc (0,t2 - fr) (J8 [(fr,t2),W] [(a,[0,2])])):=rfl
 rw[e]at hg
 have hm:=UL (rs:=[(fr,t2),W]) (xs:=[fr,y]) (l:=[(a,[0,2])]) we (λi hi=>by
  have:i=0\/i=1:=by simp at hi;omega
  rcases this with rfl | rfl
  ·exact⟨ak,ht⟩
  ·exact hy)
 rw[LI]at hm
 have:=DH hx (Zg (show Zc s (0,t2 - fr)from⟨h0,hs⟩) hm)
 exact⟨aA hg.1 this.1,aA this.2 hg.2⟩
theorem EO{rs:List (List Tm)}{t:J4}{box:List J4}(hi:i<box.length){j:Nat}:∀k,j<=k->el (el (JX rs t box k) i) j=el (el (JX rs t box j) i) j
  | 0,h=>by
    obtain rfl:j=0:=O
    rfl
  | k+1,h=>by
    by_cases e:j=k+1
    · subst e;rfl
    · rw[<-EO hi k O,JX,Xk _ hi]
      have hl:=YD rs t box k hi
      rw[JK (by rw[aC,hl];omega),eb O,<-JK]
theorem Sd{a b:List J4}{p q:Nat->Rat}:∀i,i<=k+1->(∀j,j<i->Zc (p j) (el a j)/\Zc (q j) (el b (k - j))) ->
  Zc ((aE i).foldl (λs j=>s+p j*q j) 0) (Vf a b k i)
 |0,_,_=>⟨ak,ak⟩
 |i+1,hi,h=>by
  unfold Vf
  rw[aI,az,az]
  exact DH (Sd i O λj hj=>h j O) (Zg (h i O).1 (h i O).2)
theorem Fh{n:Nat}{f:Nat->Rat}{c:Rat}(h:∀j,j<n->f j=c):(aE n).foldl (λs j=>s+f j) 0=(n:Rat)*c:=by
 have key:∀i,i<=n->(aE i).foldl (λs j=>s+f j) 0=(i:Rat)*c:=by
  intro i
  induction i with
  |zero=>intro _;simp
  |succ i ih =>
   intro hi
   rw[aI,az,ih O]
   show(i:Rat)*c+f i=_
   rw[h i O,show((i+1:Nat):Rat)=(i:Rat)+1 from Rat.natCast_add i 1]
   grind
 exact key n (ag _)
theorem qZ(c:Rat)(n j:Nat)(h:j<=n):Zc (if j=0 then c else 0) (el (Ye c n) j):=by
 cases j with
 |zero=>exact⟨ak,ak⟩
 |succ j =>
  rw[if_neg O]
  show Zc 0 (el (eL n ((0,0):J4)) j)
  rw[JK (by simpa using(by omega:j<n))];simp[Zc,ak]
theorem TP{c:Rat}{v:List J4}{j:Nat}(hj:j<=k){x:Rat}(hx:Zc x (el v j)):(∀i,i<=j->∃y,Zc y (el v i))->Zc (c*x) (el (XS (Ye c k) v) j):=by
 intro hne
 unfold XS
 rw[YT,Xk _ O]
 have hy:∀i,∃y,i<=j->Zc y (el v (j - i)):=λi=>by
  obtain⟨y,hy⟩:=hne (j - i) O
  exact⟨y,λ_=>hy⟩
 have:=Sd (a:=Ye c k) (b:=v) (k:=j) (p:=λi=>if i=0 then c else 0) (q:=λi=>if i=0 then x else bP (hy i)) (j+1) (ag _) λi hi=>by
  refine⟨qZ c k i O,?_⟩
  by_cases e:i=0
  ·subst e;rw[if_pos rfl];exact hx
  ·rw[if_neg e];exact Classical.choose_spec (hy i) O
 have e:(aE (j+1)).foldl (λs i=>s+(if i=0 then c else 0)*(if i=0 then x else bP (hy i))) 0=c*x:=by
  have key:∀n,(aE (n+1)).foldl (λs i=>s+(if i=0 then c else 0)*(if i=0 then x else bP (hy i))) 0=c*x:=by
   intro n
   induction n with
   |zero=>show 0+(if 0=0 then c else 0)*_=_;rw[if_pos rfl,if_pos rfl,bS]
   |succ n ih =>
    rw[aI,az,ih]
    show c*x+(if n+1=0 then c else 0)*_=_
    rw[if_neg O,bC,ep]
  exact key j
 rw[e]at this
 exact this
def PX(ys:Nat->Rat)(s:Nat):Nat->Rat
 |0=>1
 |m+1=>PX ys s m*ys (s+m)
theorem C5(ys:Nat->Rat)(s m:Nat):∀n,PX ys s (m+n)=PX ys s m*PX ys (s+m) n
 |0=>by show _=_*1;rw[aQ];rfl
 |n+1=>by
  show PX ys s (m+n)*ys (s+(m+n))=PX ys s m*(PX ys (s+m) n*ys (s+m+n))
  rw[C5 ys s m n,aK,Nat.add_assoc]
theorem Cx{a:Rat}{t W:J4}{ys:Nat->Rat}(hy:∀i,Zc (ys i) W):∀k s,Zc (a^k*PX ys s (k+1)) (el (el (JX (Yl a) t [W] k) 0) k):=by
 intro k
 induction k using eK with
 |_ k ih =>
  intro s
  cases k with
  |zero=>
    show Zc (a^0*(1*ys (s+0))) W
    rw[ba,bF,bF];exact hy _
  |succ k =>
   have hv:∀j,j<=k->∀s,Zc (a^j*PX ys s (j+1)) (el (el (JX (Yl a) t [W] k) 0) j):=λj hj s=>by
    rw[EO we k hj];exact ih j O s
   have hl:=YD (Yl a) t [W] k (i:=0) we
   rw[JX,Xk _ we,JK (by rw[aC,hl];simp),ea O]
   simp only[hl,eQ,ei]
   have e:Kf (el (Yl a) 0) (Z6 t k::JX (Yl a) t [W] k) k=KK (Ye 0 k) (XS (XS (Ye a k) (el (JX (Yl a) t [W] k) 0)) (el (JX (Yl a) t [W] k) 0)):=by
    show KK (Ye 0 k) (Wj a [0,2] (Z6 t k::JX (Yl a) t [W] k) k (Z6 t k::JX (Yl a) t [W] k).length)=_
    rw[aS,ZS];rfl
   rw[e]
   generalize el (JX (Yl a) t [W] k) 0=v at *
   have m1:∀j,j<=k->Zc (a*(a^j*PX ys s (j+1))) (el (XS (Ye a k) v) j):=λj hj =>
    TP hj (hv j hj s) λi hi=>⟨_,hv i O 0⟩
   have m2:Zc ((aE (k+1)).foldl (λs' j=>s'+(a*(a^j*PX ys s (j+1)))*(a^(k - j)*PX ys (s+(j+1)) (k - j+1))) 0) (el (XS (XS (Ye a k) v) v) k):=by
    rw[XS,Gx,YT,Xk _ O]
    exact Sd (k+1) (ag _) λj hj=>⟨m1 j O,hv (k - j) O _⟩
   have hc:∀j,j<k+1->(a*(a^j*PX ys s (j+1)))*(a^(k - j)*PX ys (s+(j+1)) (k - j+1))=a^(k+1)*PX ys s (k+1+1):=λj hj=>by
    rw[show k+1+1=(j+1)+(k - j+1) by omega,C5 ys s (j+1) (k - j+1),show a^(k+1)=a^j*a^(k - j)*a by rw[<-Eb,<-bc];congr 1;omega]
    generalize PX ys s (j+1)=A
    generalize PX ys (s+(j+1)) (k - j+1)=B
    generalize a^j=C
    generalize a^(k - j)=D
    clear ih hv m1 m2 hl e
    grind
   rw[Fh hc]at m2
   have m3:Zc (0+((k+1:Nat):Rat)*(a^(k+1)*PX ys s (k+1+1))) (el (KK (Ye 0 k) (XS (XS (Ye a k) v) v)) k):=by
    rw[KK,YT,Xk _ O]
    refine DH ?_ m2
    have:=qZ 0 k k (ag _)
    rwa [ite_self]at this
   have m4:=Zg m3 (show Zc ((((k+1:Nat):Int):Rat)⁻¹) ((((k+1:Nat):Int):Rat)⁻¹,(((k+1:Nat):Int):Rat)⁻¹)from⟨ak,ak⟩)
   have hk:(((k+1:Nat):Int):Rat)≠0:=by
    intro h
    have:((k+1:Nat):Int)=0:=by exact_mod_cast h
    omega
   have e2:(0+((k+1:Nat):Rat)*(a^(k+1)*PX ys s (k+1+1)))*(((k+1:Nat):Int):Rat)⁻¹=a^(k+1)*PX ys s (k+1+1):=by
    have e3:((k+1:Nat):Rat)=(((k+1:Nat):Int):Rat):=rfl
    rw[e3,bS,eO,<-aK,aJ _ hk,bF]
   rw[e2]at m4
   exact m4
theorem Mc(ys:Nat->Rat)(x:Rat)(s:Nat):∀m,(∀i,i<m->ys (s+i)=x)->PX ys s m=x^m
 |0,_=>(ba x).symm
 |m+1,h=>by
  show PX ys s m*ys (s+m)=_
  rw[Mc ys x s m λi hi=>h i O,h m O,bc]
theorem Fj{l:List J4}{c:Nat->Rat}:∀n,(∀k,k<n->Zc (c k) (el l k))->Zc ((aE n).foldl (λs k=>s+c k*h^k) 0) (Ww l h n)
 |0,_=>⟨ak,ak⟩
 |n+1,hc=>by
  unfold Ww
  rw[aI,az,az]
  exact DH (Fj n λk hk=>hc k O) (Zg (hc n O) ⟨ak,ak⟩)
theorem geo{a x:Rat}(hx:x*(1 - a*x0*h)=x0):∀n,x=(aE n).foldl (λs k=>s+(a^k*x0^(k+1))*h^k) 0+(a^n*x0^n*x)*h^n
 |0=>by
  show x=0+(a^0*x0^0*x)*h^0
  rw[ba,ba,ba];grind
 |n+1=>by
  rw[aI,az]
  have ih:=geo hx n
  show x=(eV _ 0 (aE n)+(a^n*x0^(n+1))*h^n)+_
  generalize eV (λs k=>s+(a^k*x0^(k+1))*h^k) 0 (aE n)=S at ih ⊢
  rw[bc,bc,bc]
  generalize a^n=A at ih ⊢
  generalize x0^n=B at ih ⊢
  generalize h^n=C at ih ⊢
  have e:x=x0+a*x0*h*x:=by grind
  have e2:A*B*x*C=A*B*(x0+a*x0*h*x)*C:=by rw[<-e]
  grind
theorem yV{a:Rat}{X W:J4}(hx:Zc x0 X)(hW:W.1<=W.2)(ht:fr<=t2)(hg:AX (Zp (Yl a) fr t2 [X] [W]) [W]=true)(n:Nat):
  0<1 - a*x0*(t2 - fr)/\Zc (x0 / (1 - a*x0*(t2 - fr))) (el (Zn (Yl a) fr t2 [X] [W] n) 0):=by
 obtain⟨k0,k1⟩:=F4 hx hW ht hg (s:=t2 - fr) (by grind) ak
 obtain⟨_,k2⟩:=F4 hx hW ht hg (s:=0) ak (by grind)
 refine⟨k0,?_⟩
 have k3:Zc x0 W:=by
  rw[Rat.mul_zero,show(1:Rat) - 0=1 by grind,aD,show((1:Rat))⁻¹=1 by decide +kernel,aQ]at k2;exact k2
 have hx1:x0 / (1 - a*x0*(t2 - fr))*(1 - a*x0*(t2 - fr))=x0:=by rw[aD,aK,aJ _ (by grind),aQ]
 have hg2:=geo hx1 (n+1)
 generalize x0 / (1 - a*x0*(t2 - fr))=x at *
 show Zc x (Y3 (Ww (el (JX (Yl a) (fr,fr) [X] n) 0) (t2 - fr) (n+1)) (Jc (el (el (JX (Yl a) (fr,t2) [W] (n+1)) 0) (n+1)) ((t2 - fr)^(n+1),(t2 - fr)^(n+1))))
 rw[hg2]
 refine DH (Fj (n+1) λk hk=>?_) (Zg ?_ ⟨ak,ak⟩)
 ·rw[EO we n O]
  have:=Cx (a:=a) (t:=(fr,fr)) (W:=X) (ys:=λ_=>x0) (λ_=>hx) k 0
  rwa [Mc _ x0 0 (k+1) λ_ _=>rfl]at this
 ·have:=Cx (a:=a) (t:=(fr,t2)) (W:=W) (ys:=λi=>if i=n+1 then x else x0) (λi=>by split;exact k1;exact k3) (n+1) 0
  have e:PX (λi=>if i=n+1 then x else x0) 0 (n+1+1)=x0^(n+1)*x:=by
   show PX _ 0 (n+1)*_=_
   rw[Mc _ x0 0 (n+1) λi hi=>by rw[if_neg O]]
   show _*(if 0+(n+1)=n+1 then x else x0)=_
   rw[if_pos O]
  rw[e,<-aK]at this
  exact this
theorem Ng{x y:Rat}(h:x<=y)(i:Nat):Yd x i<=Yd y i:=by
 have hp:=I9 i
 unfold Yd
 refine ae ?_ (aB hp)
 refine Rat.intCast_le_intCast.2 (bR ?_)
 rw[aD,aD]
 exact ae h (aB (Rat.inv_pos.2 hp))
theorem Tz(a:J4)(b:Int):YH (YH a b) b=YH a b:=by
 rw[Rw,Rw]
 dsimp only
 rw[Rat.neg_neg]
 unfold Yd
 rw[IW,IW,bG,bG]
theorem II{a:J4}(h:a.1<=a.2)(b:Int):Xi a (YH a b):=by
 rw[Rw]
 have h1:=(Dz a.1 b.toNat).1
 have h2:=(UY a.2 b.toNat).1
 exact⟨by show Yd _ _<=_;grind,h,by show _<=-Yd _ _;grind⟩
theorem Ty{a c:J4}(h:Xi a c)(b:Int):Xi (YH a b) (YH c b):=by
 rw[Rw,Rw]
 obtain⟨h1,h2,h3⟩:=h
 refine⟨Ng h1 _,QBd h2 _,?_⟩
 have:=Ng (show -c.2<=-a.2 by grind) b.toNat
 show -Yd _ _<=-Yd _ _
 grind
def Ry(l:List J4):Prop:=∀i,i<l.length->(el l i).1<=(el l i).2
theorem Ry.sub{l:List J4}(h:Ry l):X0 l l:=⟨rfl,λi hi=>Xi.self (h i hi)⟩
theorem X0.ord{a b:List J4}(h:X0 a b):Ry a:=λi hi=>(h.2 i hi).2.1
theorem BV(rs:List (List Tm))(fr t2:Rat)(x on:List J4):(Zp rs fr t2 x on).length=x.length:=by simp[Zp]
theorem Gi(f:J4->J4->J4)(a b:List J4):(Dw f a b).length=a.length:=by simp[Dw]
theorem E5(f:J4->J4->J4)(a b:List J4){i:Nat}(h:i<a.length):el (Dw f a b) i=f (el a i) (el b i):=by unfold Dw;rw[Xk _ h]
theorem DB{β:Type}[Inhabited α][Inhabited β](f:α->β){l:List α}{i:Nat}(h:i<l.length):el (l.map f) i=f (el l i):=by
 rw[JK (by simpa using h),JK h,aW]
def ju(rs:List (List Tm))(n:Nat):Prop:=∀i,i<n->∀t∈el rs i,t.2.length<=n+1/\∀k∈t.2,0<=k
theorem T7{rs:List (List Tm)}{x on o2:List J4}(hx:Ry x)(ho:X0 on o2)(hl:on.length=x.length)(ht:fr<=t2)(hr:ju rs x.length):X0 (Zp rs fr t2 x on) (Zp rs fr t2 x o2):=by
 unfold Zp
 refine X0.of λi hi=>MG (Xi.self (hx i hi)) (WT (Xi.self (by show(0:Rat)<=t2 - fr;grind)) ?_)
 exact UK (rs:=(fr,t2)::on) (bs:=(fr,t2)::o2) (by simpa[hl]using hr i hi) λj hj=>by
  cases j with
  |zero=>exact Xi.self ht
  |succ j=>exact ho.2 j (by simpa using hj)
theorem I4{a b:J4}(h:a.1<=a.2):(XF a b).1<=a.1/\a.2<=(XF a b).2/\(XF a b).1<=b.1/\b.2<=(XF a b).2:=by
 have c:∀x y:Rat,Ks x y<=0↔x<=y:=λx y=>by unfold Ks;split<;>(try split)<;>grind
 have c2:∀x y:Rat,Ks x y>=0↔y<=x:=λx y=>by unfold Ks;split<;>(try split)<;>grind
 unfold XF Ol Oq
 dsimp only
 simp only[c,c2]
 refine⟨?_,?_,?_,?_⟩<;>(split<;>grind)
def onG(l:List J4)(b:Int):Prop:=Ry l/\∀i,i<l.length->YH (el l i) b=el l i
theorem Rx{a:J4}(h:a.1<=a.2)(b:Int):(YH a b).1<=(YH a b).2:=(Ty (Xi.self h) b).2.1
theorem FX(b:Int):0<=(((two b:Int):Rat))⁻¹:=aB (Rat.inv_pos.2 (by
 have:0<two b:=eG wa
 exact Rat.intCast_lt_intCast.2 this))
theorem zQ{v n:J4}(h:v.1<=v.2):(TH b v n).1<=(TH b v n).2:=by
 unfold TH
 refine Rx ?_ b
 dsimp only
 have h1:=I4 (a:=v) (b:=n) h
 have h2:=FX b
 have h3:0<=((XF v n).2 - (XF v n).1)*aw 1 4:=aj (by grind) wb
 grind
theorem FZ{rs:List (List Tm)}{x W:List J4}(hx:Ry x)(ht:fr<=t2)(hr:ju rs x.length):∀(k:Nat) (v:List J4),v.length=x.length->onG v b->EM rs fr t2 x b k v=some W ->
  ∃v,v.length=x.length/\onG v b/\Jz v=false/\X0 W v/\AX (Zp rs fr t2 x W) W=true
 |0,_,_,_,h=>by simp[EM]at h
 |k+1,v,hl,hg,h=>by
  unfold EM at h
  by_cases h1:Jz v=true
  ·rw[if_pos h1]at h;cases h
  ·rw[if_neg h1]at h
   by_cases h2:AX (Zp rs fr t2 x v) v=true
   ·rw[if_pos h2]at h
    obtain rfl:(Zp rs fr t2 x v).map (YH · b)=W:=by simpa using h
    have hn:=T7 hx hg.1.sub hl ht hr
    have hWv:X0 ((Zp rs fr t2 x v).map (YH · b)) v:=⟨by rw[aa,BV,hl],λi hi=>by
     rw[aa]at hi
     rw[DB _ hi]
     rw[B3]at h2
     obtain⟨k1,k2⟩:=h2 i hi
     have:=Ty (b:=b) (show Xi (el (Zp rs fr t2 x v) i) (el v i)from⟨k1,hn.ord i hi,k2⟩)
     rwa [hg.2 i (by rw[hl,<-BV rs fr t2 x v];exact hi)]at this⟩
    refine⟨v,hl,hg,by simpa using h1,hWv,?_⟩
    have h3:=T7 hx hWv (by rw[aa,BV]) ht hr
    refine uN h3 ((B3 _ _).2 λi hi=>?_)
    rw[DB _ hi]
    have:=II (hn.ord i hi) b
    exact⟨this.1,this.2.2⟩
   ·rw[if_neg h2]at h
    refine FZ hx ht hr k _ (by rw[Gi,hl]) ⟨λi hi=>?_,λi hi=>?_⟩ h
    ·rw[Gi]at hi;rw[E5 _ _ _ hi];exact zQ (hg.1 i hi)
    ·rw[Gi]at hi;rw[E5 _ _ _ hi];unfold TH;exact Tz _ _
theorem IE{rs:List (List Tm)}{x W:List J4}(hx:Ry x)(ht:fr<=t2)(hr:ju rs x.length)(h:Y2 rs fr t2 x b=some W):
  ∃v,v.length=x.length/\onG v b/\Jz v=false/\X0 W v/\AX (Zp rs fr t2 x W) W=true:=by
 refine FZ hx ht hr 12 _ (by rw[Gi]) ⟨λi hi=>?_,λi hi=>?_⟩ h
 ·rw[Gi]at hi;rw[E5 _ _ _ hi]
  exact Rx (by have:=I4 (b:=el (Zp rs fr t2 x x) i) (hx i hi);have:=hx i hi;grind) b
 ·rw[Gi]at hi;rw[E5 _ _ _ hi];exact Tz _ _
theorem pC(a:Rat):ju (Yl a) 1:=by
 intro i hi t ht
 obtain rfl:i=0:=O
 have ht:t∈[((a,[0,2]):Tm)]:=ht
 rw[List.mem_singleton]at ht
 subst ht
 exact⟨we,we⟩
theorem IJ{l:List J4}(h:l.length=1):l=[el l 0]:=by
 match l,h with
 |[x],_=>rfl
theorem yW{a c t u:Rat}(h:0<1 - a*c*t):1 - a*(c / (1 - a*c*t))*(u - t)=(1 - a*c*u) / (1 - a*c*t):=by
 rw[aD,aD]
 have e:=bQ (1 - a*c*t) (by grind)
 generalize (1 - a*c*t)⁻¹=q at *
 grind
theorem zV(rs:List (List Tm))(n:Nat)(b:Int)(fr:Rat)(x:List J4)(e:Rat)(es:List Rat):Wb rs n b fr x (e::es)=match KJ rs fr e x n b with
  |none=>none
  |some (w,l)=>(Wb rs n b e l es).map λr=>(e,w,l)::r:=rfl
theorem QDz{a c:Rat}(es:List Rat):∀(fr:Rat) (X:J4) (tb:List (Rat×List J4×List J4)),X.1<=X.2->0<1 - a*c*fr->Zc (c / (1 - a*c*fr)) X ->
  (∀i,i<es.length->(if i=0 then fr else el es (i - 1))<=el es i)->Wb (Yl a) n b fr [X] es=some tb ->
  tb.length=es.length/\∀i,i<es.length->(el tb i).1=el es i/\0<1 - a*c*el es i/\(el tb i).2.2.length=1/\(el tb i).2.1.length=1/\Zc (c / (1 - a*c*el es i)) (el (el tb i).2.2 0):=by
 induction es with
 |nil =>
  intro fr X tb _ _ _ _ h
  obtain rfl:[]=tb:=Option.some.inj h
  exact⟨rfl,λi hi=>by cases hi⟩
 |cons e es ih =>
  intro fr X tb hX h0 hx ho h
  rw[zV]at h
  unfold KJ at h
  cases hp:Y2 (Yl a) fr e [X] b with
  |none=>rw[hp]at h;simp at h
  |some W =>
   rw[hp]at h
   simp only[eH]at h
   have ht:fr<=e:=ho 0 we
   obtain⟨v,hl,hg,_,hW,hgood⟩:=IE (x:=[X]) (λi hi=>by
     obtain rfl:i=0:=by simpa using hi
     exact hX) ht (pC a) hp
   have hWl:W.length=1:=by rw[hW.1,hl];rfl
   have hWe:=IJ hWl
   have hW1:(el W 0).1<=(el W 0).2:=hW.ord 0 O
   rw[hWe]at hgood
   obtain⟨k0,k1⟩:=yV hx hW1 ht hgood n
   rw[yW h0]at k0 k1
   have k0':0<1 - a*c*e:=by
    have:=aZ k0 h0
    rw[bC,aD,aK,aJ _ (by grind),aQ]at this
    exact this
   have e1:c / (1 - a*c*fr) / ((1 - a*c*e) / (1 - a*c*fr))=c / (1 - a*c*e):=by
    rw[aD,aD,aD,aD,Rat.inv_mul_rev,Rat.inv_inv]
    have:=aJ (1 - a*c*fr) (by grind)
    generalize (1 - a*c*fr)⁻¹=q at *
    grind
   rw[e1]at k1
   rw[<-hWe]at k1
   generalize hL:(Zn (Yl a) fr e [X] W n).map (YH · b)=L at h
   have hLl:L.length=1:=by rw[<-hL];simp[Zn]
   have k2:Zc (c / (1 - a*c*e)) (el L 0):=by
    rw[<-hL,DB _ (by simp[Zn])]
    have hord:(el (Zn (Yl a) fr e [X] W n) 0).1<=(el (Zn (Yl a) fr e [X] W n) 0).2:=aA k1.1 k1.2
    exact k1.sub (II hord b)
   have hLe:=IJ hLl
   cases ht2:Wb (Yl a) n b e L es with
   |none=>rw[ht2]at h;simp at h
   |some r =>
    rw[ht2]at h
    obtain rfl:(e,W,L)::r=tb:=by simpa using h
    rw[hLe]at ht2
    obtain⟨r1,r2⟩:=ih e (el L 0) r (aA k2.1 k2.2) k0' k2 (λi hi=>by
     have:=ho (i+1) (by simpa using hi)
     cases i with
     |zero=>exact this
     |succ i=>exact this) ht2
    refine⟨by simp[r1],λi hi=>?_⟩
    cases i with
    |zero=>exact⟨rfl,k0',hLl,hWl,k2⟩
    |succ i=>exact r2 i (by simpa using hi)
def DM(a:J4)(m:Rat):Prop:=(-m<=a.1/\a.1<=m)/\(-m<=a.2/\a.2<=m)
theorem Hl{x y m n:Rat}(hx : -m<=x/\x<=m)(hy : -n<=y/\y<=n): -(m*n)<=x*y/\x*y<=m*n:=by
 have h1:=aj (show 0<=m - x by grind) (show 0<=n - y by grind)
 have h2:=aj (show 0<=m+x by grind) (show 0<=n+y by grind)
 have h3:=aj (show 0<=m - x by grind) (show 0<=n+y by grind)
 have h4:=aj (show 0<=m+x by grind) (show 0<=n - y by grind)
 constructor<;>grind
theorem DM.times{a b:J4}{m n:Rat}(ha:DM a m)(hb:DM b n):DM (Jc a b) (m*n):=by
 have h:=GH (a.1*b.1) [a.1*b.2,a.2*b.1,a.2*b.2]
 have key:∀y∈a.1*b.1::[a.1*b.2,a.2*b.1,a.2*b.2],-(m*n)<=y/\y<=m*n:=by
  intro y hy
  simp only[bh,bp,or_false]at hy
  rcases hy with rfl | rfl | rfl | rfl
  ·exact Hl ha.1 hb.1
  ·exact Hl ha.1 hb.2
  ·exact Hl ha.2 hb.1
  ·exact Hl ha.2 hb.2
 exact⟨key _ h.1,key _ h.2⟩
theorem DM.add{a b:J4}{m n:Rat}(ha:DM a m)(hb:DM b n):DM (Y3 a b) (m+n):=by
 obtain⟨⟨a1,a2⟩,a3,a4⟩:=ha;obtain⟨⟨b1,b2⟩,b3,b4⟩:=hb
 refine⟨⟨?_,?_⟩,?_,?_⟩<;>(unfold Y3;grind)
theorem DM.pt{x m:Rat}(h : -m<=x/\x<=m):DM (x,x) m:=⟨h,h⟩
theorem DM.mono{a:J4}{m n:Rat}(h:DM a m)(k:m<=n):DM a n:=by
 obtain⟨⟨a1,a2⟩,a3,a4⟩:=h
 exact⟨⟨by grind,by grind⟩,by grind,by grind⟩
theorem Ar{a b:List J4}{p q:Nat->Rat}:∀i,i<=k+1->(∀j,j<i->DM (el a j) (p j)/\DM (el b (k - j)) (q j)) ->
  DM (Vf a b k i) ((aE i).foldl (λs j=>s+p j*q j) 0)
 |0,_,_=>show DM (0,0) 0 from DM.pt ⟨wb,ak⟩
 |i+1,hi,h=>by
  unfold Vf
  rw[aI,az,az]
  exact(Ar i O λj hj=>h j O).add ((h i O).1.times (h i O).2)
theorem vp(c:Rat){ca:Rat}(hc : -ca<=c/\c<=ca)(n j:Nat)(h:j<=n):DM (el (Ye c n) j) (if j=0 then ca else 0):=by
 cases j with
 |zero=>exact DM.pt hc
 |succ j =>
  rw[if_neg O]
  show DM (el (eL n ((0,0):J4)) j) 0
  rw[JK (by simpa using(by omega:j<n))]
  rw[List.getElem_replicate]
  exact DM.pt ⟨wb,ak⟩
theorem Ap{c ca:Rat}(hc : -ca<=c/\c<=ca){v:List J4}{k j:Nat}(hj:j<=k){m:Nat->Rat}(hv:∀i,i<=j->DM (el v i) (m i)):DM (el (XS (Ye c k) v) j) (ca*m j):=by
 unfold XS
 rw[YT,Xk _ O]
 have:=Ar (a:=Ye c k) (b:=v) (k:=j) (p:=λi=>if i=0 then ca else 0) (q:=λi=>m (j - i)) (j+1) (ag _) λi hi=>⟨vp c hc k i O,hv (j - i) O⟩
 have e:(aE (j+1)).foldl (λs i=>s+(if i=0 then ca else 0)*m (j - i)) 0=ca*m j:=by
  have key:∀n,(aE (n+1)).foldl (λs i=>s+(if i=0 then ca else 0)*m (j - i)) 0=ca*m j:=by
   intro n
   induction n with
   |zero=>show 0+(if 0=0 then ca else 0)*_=_;rw[if_pos rfl,bS];rfl
   |succ n ih =>
    rw[aI,az,ih]
    show ca*m j+(if n+1=0 then ca else 0)*_=_
    rw[if_neg O,bC,ep]
  exact key j
 rw[e]at this
 exact this
theorem QGF{a A M:Rat}{t W:J4}(ha : -A<=a/\a<=A)(hW:DM W M):∀k,DM (el (el (JX (Yl a) t [W] k) 0) k) (A^k*M^(k+1)):=by
 intro k
 induction k using eK with
 |_ k ih =>
  cases k with
  |zero =>
   show DM W (A^0*M^(0+1))
   rw[ba,bF,bc,ba,bF];exact hW
  |succ k =>
   have hv:∀j,j<=k->DM (el (el (JX (Yl a) t [W] k) 0) j) (A^j*M^(j+1)):=λj hj=>by
    rw[EO we k hj];exact ih j O
   have hl:=YD (Yl a) t [W] k (i:=0) we
   rw[JX,Xk _ we,JK (by rw[aC,hl];simp),ea O]
   simp only[hl,eQ,ei]
   have e:Kf (el (Yl a) 0) (Z6 t k::JX (Yl a) t [W] k) k=KK (Ye 0 k) (XS (XS (Ye a k) (el (JX (Yl a) t [W] k) 0)) (el (JX (Yl a) t [W] k) 0)):=by
    show KK (Ye 0 k) (Wj a [0,2] (Z6 t k::JX (Yl a) t [W] k) k (Z6 t k::JX (Yl a) t [W] k).length)=_
    rw[aS,ZS];rfl
   rw[e]
   generalize el (JX (Yl a) t [W] k) 0=v at *
   have m1:∀j,j<=k->DM (el (XS (Ye a k) v) j) (A*(A^j*M^(j+1))):=λj hj =>
    Ap ha hj (m:=λj=>A^j*M^(j+1)) λi hi=>hv i O
   have m2:DM (el (XS (XS (Ye a k) v) v) k) ((aE (k+1)).foldl (λs j=>s+(A*(A^j*M^(j+1)))*(A^(k - j)*M^(k - j+1))) 0):=by
    rw[XS,Gx,YT,Xk _ O]
    exact Ar (k+1) (ag _) λj hj=>⟨m1 j O,hv (k - j) O⟩
   have hc:∀j,j<k+1->(A*(A^j*M^(j+1)))*(A^(k - j)*M^(k - j+1))=A^(k+1)*M^(k+1+1):=λj hj=>by
    rw[show k+1+1=(j+1)+(k - j+1) by omega,Eb M (j+1) (k - j+1),show A^(k+1)=A^j*A^(k - j)*A by rw[<-Eb,<-bc];congr 1;omega]
    generalize M^(j+1)=B
    generalize M^(k - j+1)=B2
    generalize A^j=C
    generalize A^(k - j)=D
    clear ih hv m1 m2 hl e
    grind
   rw[Fh hc]at m2
   have m3:DM (el (KK (Ye 0 k) (XS (XS (Ye a k) v) v)) k) (0+((k+1:Nat):Rat)*(A^(k+1)*M^(k+1+1))):=by
    rw[KK,YT,Xk _ O]
    refine DM.add ?_ m2
    have:=vp 0 (ca:=0) ⟨wb,ak⟩ k k (ag _)
    rwa [ite_self]at this
   have hkp:(0:Rat)<(((k+1:Nat):Int):Rat):=(bm (a:=0) (b:=((k+1:Nat):Int))).2 O
   have hip:=Rat.inv_pos.2 hkp
   have m4:=m3.times (DM.pt (x:=(((k+1:Nat):Int):Rat)⁻¹) (m:=(((k+1:Nat):Int):Rat)⁻¹) ⟨by grind,ak⟩)
   have e2:(0+((k+1:Nat):Rat)*(A^(k+1)*M^(k+1+1)))*(((k+1:Nat):Int):Rat)⁻¹=A^(k+1)*M^(k+1+1):=by
    have e3:((k+1:Nat):Rat)=(((k+1:Nat):Int):Rat):=rfl
    rw[e3,bS,eO,<-aK,aJ _ (by grind),bF]
   rw[e2]at m4
   exact m4
theorem QGG{a:Rat}{X W:J4}(hx:Zc x0 X)(ht:fr<=t2)(hg:AX (Zp (Yl a) fr t2 [X] [W]) [W]=true){y s:Rat}(hy:Zc y W)(h0:0<=s)(hs:s<=t2 - fr):Zc (x0+s*(a*(y*y))) W:=by
 rw[B3]at hg
 have hg:=hg 0 (by simp[Zp])
 have e:el (Zp (Yl a) fr t2 [X] [W]) 0=Y3 X (Jc (0,t2 - fr) (J8 [(fr,t2),W] [(a,[0,2])])):=rfl
 rw[e]at hg
 have hm:=UL (rs:=[(fr,t2),W]) (xs:=[fr,y]) (l:=[(a,[0,2])]) we (λi hi=>by
  have:i=0\/i=1:=by simp at hi;omega
  rcases this with rfl | rfl
  ·exact⟨ak,ht⟩
  ·exact hy)
 rw[LI]at hm
 have:=DH hx (Zg (show Zc s (0,t2 - fr)from⟨h0,hs⟩) hm)
 exact⟨aA hg.1 this.1,aA this.2 hg.2⟩
theorem LD{x:Rat}{c:Int}(h : -(c:Rat)<=x/\x<=(c:Rat)): -c<=x.floor/\x.floor<=c:=by
 have h1:=bR h.2
 have h2:=bR h.1
 rw[bG]at h1
 rw[<-bX,bG]at h2
 exact⟨h2,h1⟩
theorem QBm{Q z:Int}(hq:Q≠0):aw z Q*(Q:Rat)=(z:Rat):=by
 have hq':(Q:Rat)≠0:=λh=>hq (Rat.intCast_inj.1 (by simpa using h))
 rw[Rat.divInt_eq_div,aD,aK,aJ _ hq',aQ]
theorem mgQ{Q z c:Int}(hq:0<Q)(h : -(c:Rat)<=aw z Q/\aw z Q<=(c:Rat)): -(c*Q)<=z/\z<=c*Q:=by
 have hq':(0:Rat)<=(Q:Rat):=aB ((bm (a:=0) (b:=Q)).2 hq)
 have h1:=ae h.1 hq'
 have h2:=ae h.2 hq'
 rw[QBm O]at h1 h2
 rw[<-bX,<-bA]at h1
 rw[<-bA]at h2
 have g1:=Rat.intCast_le_intCast.1 h1
 have g2:=Rat.intCast_le_intCast.1 h2
 rw[eX]at g1
 exact⟨g1,g2⟩
theorem kV{Q z c:Int}(hq:0<Q)(h : -(c*Q)<=z/\z<=c*Q): -(c:Rat)<=aw z Q/\aw z Q<=(c:Rat):=by
 have hq':(0:Rat)<(Q:Rat):=(bm (a:=0) (b:=Q)).2 hq
 have e:∀x:Rat,x=x*(Q:Rat)*(Q:Rat)⁻¹:=λx=>by rw[aK,bQ _ (by grind),aQ]
 have hi:(0:Rat)<=(Q:Rat)⁻¹:=aB (Rat.inv_pos.2 hq')
 constructor
 ·rw[e (aw z Q),QBm O,e (-(c:Rat))]
  refine ae ?_ hi
  rw[<-bX,<-bA]
  exact Rat.intCast_le_intCast.2 (by rw[eX];exact h.1)
 ·rw[e (aw z Q),QBm O,e (c:Rat)]
  refine ae ?_ hi
  rw[<-bA]
  exact Rat.intCast_le_intCast.2 h.2
def IY(k:Nat)(r:Rat):Prop:=-(((2^k:Int)):Rat)<=r/\r<=((2^k:Int):Rat)
theorem yy(k:Nat):(0:Int)<2^k:=eG wa
theorem Cl.mg{d:Nat}{r:Rat}(h0:0<Q)(h:Cl Q d k r):IY k r:=by
 obtain⟨z,rfl,hz⟩:=h
 have hq:0<((Q^d:Nat):Int):=by have:=bW (n:=d) h0;omega
 refine kV hq ?_
 have e:(2^k:Int)*((Q^d:Nat):Int)=((2^k*Q^d:Nat):Int):=by rw[bO,bB 2 k];rfl
 rw[e];omega
theorem Cl.small{d:Nat}{r:Rat}(h0:0<Q)(h:Cl Q 1 d r)(hm:IY k r):Cl Q 1 k r:=by
 obtain⟨z,rfl,hz⟩:=h
 have hq:0<((Q^1:Nat):Int):=by have:=bW (n:=1) h0;omega
 refine⟨z,rfl,?_⟩
 have h1:=mgQ hq hm
 have e:(2^k:Int)*((Q^1:Nat):Int)=((2^k*Q^1:Nat):Int):=by rw[bO,bB 2 k];rfl
 rw[e]at h1;omega
theorem AK{r:Rat}(h:JL r<=k):IY k r:=by
 have h1:sz r.num<=k:=ai (bY _ _) h
 rw[XL]at h1
 have h2:=kV (Q:=(r.den:Int)) (z:=r.num) (c:=2^k) (by have:=r.den_pos;omega) (by
  have e:(2^k:Int)=((2^k:Nat):Int):=by rw[bB];rfl
  have h3:(2^k:Int)*1<=2^k*(r.den:Int):=Int.mul_le_mul_of_nonneg_left (by have:=r.den_pos;omega) (Int.le_of_lt (yy k))
  rw[e]at h3 ⊢
  omega)
 rw[Rat.num_divInt_den]at h2
 exact h2
theorem HK{a b r:Rat}(ha:IY k a)(hb:IY k b)(h1:a<=r)(h2:r<=b):IY k r:=⟨aA ha.1 h1,aA h2 hb.2⟩
theorem kH{a:Rat×Rat}(h0:0<Q)(hd:2^b.toNat ∣ Q)(h:IY k a.1/\IY k a.2):VS Q 1 k (YH a b):=by
 obtain⟨q,rfl⟩:=hd
 have hq:0<q:=Nat.pos_of_ne_zero (by rintro rfl;simp at h0)
 have e:two b=((2^b.toNat:Nat):Int):=by unfold two;rw[bB];rfl
 have hT:0<two b:=eG wa
 have key:∀p:Int,(-(2^k*two b)<=p/\p<=2^k*two b)->Cl (2^b.toNat*q) 1 k (aw p (two b)):=λp hp=>by
  refine⟨p*q,?_,?_⟩
  ·rw[eS,bO,<-e,Rat.divInt_mul_right O]
  ·rw[eS,Int.natAbs_mul,eJ,<-Nat.mul_assoc]
   refine ao _ ?_
   have e2:(2:Int)^k*two b=((2^k*2^b.toNat:Nat):Int):=by rw[e,bO,bB 2 k];rfl
   rw[e2]at hp;omega
 have hTq:(0:Rat)<=((two b:Int):Rat):=aB ((bm (a:=0) (b:=two b)).2 hT)
 have mul:∀x:Rat,IY k x->-(((2^k*two b:Int)):Rat)<=x*((two b:Int):Rat)/\x*((two b:Int):Rat)<=((2^k*two b:Int):Rat):=λx hx=>by
  rw[bA]
  have m1:=ae hx.1 hTq
  have m2:=ae hx.2 hTq
  rw[eD]at m1
  exact⟨m1,m2⟩
 refine⟨key _ (LD (mul _ h.1)),key _ ?_⟩
 have:=LD (c:=2^k*two b) (x:=-(a.2*((two b:Int):Rat))) (by have:=mul _ h.2;constructor<;>grind)
 omega
theorem Up{rs:List (List Tm)}{x:List J4}:∀(k:Nat) (v W:List J4),EM rs fr t2 x b k v=some W->W.length=x.length/\∀a∈W,∃c,a=YH c b
 |0,v,W,h=>by cases h
 |k+1,v,W,h=>by
  unfold EM at h
  by_cases h1:Jz v=true
  ·rw[if_pos h1]at h;cases h
  ·rw[if_neg h1]at h
   by_cases h2:AX (Zp rs fr t2 x v) v=true
   ·rw[if_pos h2]at h
    cases h
    refine⟨by rw[aa,BV],λa ha=>?_⟩
    obtain⟨c,_,rfl⟩:=List.mem_map.1 ha
    exact⟨c,rfl⟩
   ·rw[if_neg h2]at h
    exact Up k _ W h
theorem QBe(c:Rat×Rat){b:Int}(h0:0<Q)(hd:2^b.toNat ∣ Q):∃k,VS Q 1 k (YH c b):=by
 have h1:IY (max (JL c.1) (JL c.2)) c.1:=AK (bY _ _)
 have h2:IY (max (JL c.1) (JL c.2)) c.2:=AK (Nat.le_max_right _ _)
 exact⟨_,kH h0 hd ⟨h1,h2⟩⟩
theorem vK{bs:List J4}{l:List Tm}(hl:∀t∈l,t.2.length<=bs.length/\∀k∈t.2,0<=k)(hb:Ry bs):(J8 bs l).1<=(J8 bs l).2 :=
 (UK hl λi hi=>Xi.self (hb i hi)).2.1
structure xu(Q Z D T m n:Nat)(b:Int)(rs:List (List Tm)):Prop where
 q0:0<Q
 hb:0<=b/\b<=64
 dy:2^b.toNat ∣ Q
 inv:∀k,k<n+1->Cl Q 1 0 ((((k+1:Nat):Int):Rat)⁻¹)
 po:∀i,i<rs.length->cK Z D T (m+1) (el rs i)
 fd:∀i,i<rs.length->∀u∈el rs i,u.1.den ∣ Q
 hn:rs.length=m
 hm:m<=900
 hZ:Z<=2400
 n1:tyM Q 2400 D T (n+1)<=10000000
 n2:OE Q 2400 D T n<=850000
 n3:2400+sz (Q:Int)<=800000
 n4:jx Z D T (OE Q 2400 D T n)<=900000
 n5:Z+D*(OE Q 2400 D T n+1)+1<=10000000
theorem vM{D S':Nat}(h:S<=S'):jx Z D T S<=jx Z D T S':=by
 unfold jx
 have h1:D*(S+1)<=D*(S'+1):=av _ O
 have h2:T*(Z+D*(S+1)+2)<=T*(Z+D*(S'+1)+2):=av _ O
 omega
structure XOk(Q D T m n:Nat)(x:List J4):Prop where
 len:x.length=m
 ord:Ry x
 cl:∀a∈x,VS Q 1 (zh 2400 D T n+1) a
structure TmC(Q:Nat)(t:Rat):Prop where
 cl:Cl Q 1 2400 t
 sz:JL t<=2400
theorem xu.fit{D:Nat}{rs:List (List Tm)}(h:xu Q Z D T m n b rs):ju rs m:=λi hi t ht=>by
 have hp:=h.po i (by rw[h.hn];exact hi)
 exact⟨by rw[hp.pl t ht];exact ag _,λk hk=>(hp.pw t ht k hk).1⟩
theorem xu.ty{D:Nat}{rs:List (List Tm)}(h:xu Q Z D T m n b rs){t:J4}{y:List J4}(ht:VS Q 1 2400 t)(hl:y.length=m)(hy:∀a∈y,VS Q 1 2400 a):xt Q 2400 D T (n+1) rs t y where
 q0:=h.q0
 inv:=h.inv
 FK:=λi hi u hu=>by
  have hp:=h.po i hi
  refine⟨Cl.of u.1 h.q0 (h.fd i hi u hu) (ai (ai (bY _ _) (hp.FK u hu)) h.hZ),by rw[hl];exact hp.sum u hu,by rw[hl];exact hp.pl u hu,λk hk=>⟨(hp.pw u hu k hk).1,by have:=(hp.pw u hu k hk).2;omega⟩⟩
 len:=λi hi=>(h.po i hi).len
 tm:=ht
 box:=hy
 hn:=by rw[h.hn,hl]
theorem QBC(Q B D T n:Nat):B+1+1*sz (Q:Int)+2<=OE Q B D T n:=by
 unfold OE zh gp
 have h1:1*sz (Q:Int)<=((D+2)*(n+1)+1)*sz (Q:Int):=ao _ O
 omega
theorem pY{rs:List (List Tm)}{x W:List J4}(hx:x.length=m)(hW:W.length=m)(hi:i<m)(hr:ju rs m)(hxo:Ry x)(hWo:Ry W)(ht:fr<=t2):Zc (el x i).1 (el (Zp rs fr t2 x W) i)/\Zc (el x i).2 (el (Zp rs fr t2 x W) i):=by
 rw[kQ O]
 have ho:(J8 ((fr,t2)::W) (el rs i)).1<=(J8 ((fr,t2)::W) (el rs i)).2:=vK (by rw[aS,hW];exact hr i hi) λj hj=>by
  cases j with
  |zero=>exact ht
  |succ j=>exact hWo j (by simpa using hj)
 have h0:=Zg (x:=0) (y:=(J8 ((fr,t2)::W) (el rs i)).1) (a:=(0,t2 - fr)) (b:=J8 ((fr,t2)::W) (el rs i)) ⟨ak,by show(0:Rat)<=t2 - fr;grind⟩ ⟨ak,ho⟩
 rw[bC]at h0
 have hxi:=hxo i O
 unfold Zc Y3 at *
 dsimp only
 obtain⟨a1,a2⟩:=h0
 refine⟨⟨?_,?_⟩,?_,?_⟩<;>grind
theorem dh(rs:List (List Tm))(fr t2:Rat)(x on:List J4)(n:Nat):∀s∈Zn rs fr t2 x on n,s.1<=s.2:=λs hs=>by
 have hlen:(Zn rs fr t2 x on n).length=x.length:=by simp[Zn]
 obtain⟨i,hi,rfl⟩:=aL hs
 rw[<-JK hi]
 rw[hlen]at hi
 rw[zf hi]
 have h1:∀k,(Ww (el (JX rs (fr,fr) x n) i) (t2 - fr) k).1<=(Ww (el (JX rs (fr,fr) x n) i) (t2 - fr) k).2:=by
  intro k
  induction k with
  |zero=>exact ak
  |succ k ih =>
   rw[MU]
   have:=MT (el (el (JX rs (fr,fr) x n) i) k) ((t2 - fr)^k,(t2 - fr)^k)
   show _+_<=_+_
   grind
 have h2:=h1 (n+1)
 have h3:=MT (el (el (JX rs (fr,t2) on (n+1)) i) (n+1)) ((t2 - fr)^(n+1),(t2 - fr)^(n+1))
 show _+_<=_+_
 grind
theorem PS{D:Nat}{rs:List (List Tm)}{x:List J4}(h:xu Q Z D T m n b rs)(hx:XOk Q D T m n x)(hf:TmC Q fr)(ht:TmC Q t2)(hle:fr<=t2):gW rs fr t2 x n b/\∀p,KJ rs fr t2 x n b=some p->XOk Q D T m n p.2:=by
 have hlt:=QBC Q 2400 D T n
 have mv:MvC Z D T m 2400 rs fr t2:=⟨h.po,h.hn,hf.sz,ht.sz⟩
 have n1:=h.n1
 have n2:=h.n2
 have n3:=h.n3
 have n4:=h.n4
 have n5:=h.n5
 have hZ:=h.hZ
 have hm:=h.hm
 have hb:=h.hb
 have hX:∀v∈x,Xj v (OE Q 2400 D T n):=λv hv=>(VS.FJ h.q0 (hx.cl v hv)).mono (by
  unfold OE gp
  have h1:1*sz (Q:Int)<=((D+2)*(n+1)+1)*sz (Q:Int):=ao _ O
  omega)
 have hD2:D*(2400+1)<=D*(OE Q 2400 D T n+1):=av _ O
 have htr:CP rs fr t2 x:=dZ mv hx.len hX O (ag _) hm O O n4 (ai (vM O) n4) n5 O
 have key:∀W,Y2 rs fr t2 x b=some W->W.length=x.length/\(∀a∈W,VS Q 1 2400 a)/\∀a∈x,VS Q 1 2400 a:=λW hW=>by
  obtain⟨v,hvl,hvg,hvs,hWv,hg⟩:=IE hx.ord hle (by rw[hx.len];exact h.fit) hW
  have hWl:=(Up 12 _ W hW).1
  have hWd:=(Up 12 _ W hW).2
  have hsm:=Dx (v:=v) (by rw[hvs];simp)
  have hv:∀i,i<x.length->IY 2400 (el v i).1/\IY 2400 (el v i).2:=λi hi=>by
   have h1:=hsm _ (Q4 (show i<v.length by omega))
   exact⟨AK h1.1,AK h1.2⟩
  have hWm:∀i,i<x.length->IY 2400 (el W i).1/\IY 2400 (el W i).2:=λi hi=>by
   have h1:=hWv.2 i O
   have h2:=hv i hi
   exact⟨HK h2.1 h2.2 h1.1 (aA h1.2.1 h1.2.2),HK h2.1 h2.2 (aA h1.1 h1.2.1) h1.2.2⟩
  refine⟨hWl,λa ha=>?_,λa ha=>?_⟩
  ·obtain⟨c,hc⟩:=hWd a ha
   obtain⟨i,hi,rfl⟩:=aL ha
   rw[<-JK hi]at hc ⊢
   have h1:=hWm i O
   obtain⟨k,hk⟩:=QBe c h.q0 h.dy
   rw[<-hc]at hk
   exact⟨hk.1.small h.q0 h1.1,hk.2.small h.q0 h1.2⟩
  ·have ha':=hx.cl a ha
   obtain⟨i,hi,rfl⟩:=aL ha
   rw[<-JK hi]at ha' ⊢
   have h1:=hWm i hi
   have h2:=pY (rs:=rs) (fr:=fr) (t2:=t2) (i:=i) hx.len (hWl.trans hx.len) (by rw[<-hx.len];exact hi) h.fit hx.ord hWv.ord hle
   have h3:=(B3 _ _).1 hg i (by rw[BV];exact hi)
   unfold Zc at h2
   have m1:IY 2400 (el x i).1:=HK h1.1 h1.2 (aA h3.1 h2.1.1) (aA h2.1.2 h3.2)
   have m2:IY 2400 (el x i).2:=HK h1.1 h1.2 (aA h3.1 h2.2.1) (aA h2.2.2 h3.2)
   exact⟨ha'.1.small h.q0 m1,ha'.2.small h.q0 m2⟩
 have hh:Cl Q 1 (2400+1) (t2 - fr):=by rw[Rat.sub_eq_add_neg];exact ht.cl.add h.q0 hf.cl.neg
 have tb:∀W,Y2 rs fr t2 x b=some W->(gT rs fr t2 x W n/\∀s∈Zn rs fr t2 x W n,Xj s 10000000)/\∀s∈Zn rs fr t2 x W n,VS Q (gp D n) (zh 2400 D T n+1) s:=λW hW=>by
  obtain⟨k1,k2,k3⟩:=key W hW
  have y1:=h.ty (t:=(fr,fr)) (.pt hf.cl) hx.len k3
  have y2:=h.ty (t:=(fr,t2)) ⟨hf.cl,ht.cl⟩ (k1.trans hx.len) k2
  exact⟨Ci y1 y2 hh k1 O O O,zg y1 y2 hh k1⟩
 refine⟨⟨htr,λW hW=>(tb W hW).1⟩,λp hp=>?_⟩
 cases hv:Y2 rs fr t2 x b with
 |none=>rw[Bw hv]at hp;cases hp
 |some W =>
  rw[Bv hv]at hp
  cases hp
  have hlen:(Zn rs fr t2 x W n).length=x.length:=by simp[Zn]
  refine⟨by show((Zn rs fr t2 x W n).map _).length=m;rw[aa,hlen,hx.len],λi hi=>?_,λa ha=>?_⟩
  ·have hi:i<((Zn rs fr t2 x W n).map (YH · b)).length:=hi
   rw[aa]at hi
   show(el ((Zn rs fr t2 x W n).map (YH · b)) i).1<=(el ((Zn rs fr t2 x W n).map (YH · b)) i).2
   rw[DB _ hi]
   exact Rx (dh rs fr t2 x W n _ (Q4 hi)) b
  ·obtain⟨s,hs,rfl⟩:=List.mem_map.1 ha
   have h1:=(tb W hv).2 s hs
   exact kH h.q0 h.dy ⟨h1.1.mg h.q0,h1.2.mg h.q0⟩
def QFL(Q:Nat):Rat->List Rat->Prop
 |_,[]=>True
 |fr,e::es=>(TmC Q e/\fr<=e)/\QFL Q e es
theorem Ce{D:Nat}{rs:List (List Tm)}(h:xu Q Z D T m n b rs):∀(es:List Rat) (fr:Rat) (x:List J4),XOk Q D T m n x->TmC Q fr->QFL Q fr es->cI rs n b fr x es
 |[],fr,x,_,_,_=>trivial
 |e::es,fr,x,hx,hf,ha=>by
  have h1:=PS h hx hf ha.1.1 ha.1.2
  exact⟨h1.1,λp hp=>Ce h es e p.2 (h1.2 p hp) ha.1.1 ha.2⟩
end Go.Proofs.YtjcphjpkimmmjaaGreatDoor
