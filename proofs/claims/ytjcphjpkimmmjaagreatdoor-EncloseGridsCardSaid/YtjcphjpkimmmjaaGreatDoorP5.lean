/- Steps of the proof of the theorem in the last file. -/
import Derived.Test.YtjcphjpkimmmjaaGreatDoorP4
set_option linter.all false
set_option maxHeartbeats 4000000
set_option maxRecDepth 8000
open Bool renaming and_eq_true → aa
open List renaming all_eq_true → ab,not_mem_nil → ae,length_map → ah,mem_cons → aj,length → aq,take_length → ar,cons_append → au,nil_append → av
open Go.Value renaming bool → af
open Nat renaming dvd_of_mod_eq_zero → ag,le_refl → ai,zero_le → aw,pow_one → ax
open Int renaming toNat → ak
open And renaming intro → ao
namespace Go.Proofs.YtjcphjpkimmmjaaGreatDoor
variable{w:World}{F:Gs}{ra rb:Sr}{y:Zr}{rl:List Pt}{m:Nat}{b:Int}
open Go.RowKit Ig
structure SmI{α:Type}(a b:List α) where
 i:Nat
 le:i<=a.length
 h:a.take i=b.take i
theorem SmI.step{α:Type}[Inhabited α]{a b:List α}(s:SmI a b)(h1:s.i<a.length)(h2:s.i<b.length)(e:el a s.i=el b s.i):a.take (s.i+1)=b.take (s.i+1):=by rw[XN h1,XN h2,s.h,e]
theorem SmI.done{α:Type}{a b:List α}(s:SmI a b)(hl:a.length=b.length)(h:s.i=a.length):a=b:=by
 have e:=s.h
 rw[h,ar,hl,ar]at e;exact e
instance :Inhabited (List UInt8×List UInt8):=⟨([],[])⟩
theorem jK{la lb:List (List UInt8×List UInt8)}(hF:Fits F w)(ha:VG F ra la)(hb:VG F rb lb)(hn:ra.n<=1000000):Qe Tryz.prog 35 [ra.v,rb.v] w F (.bool (decide (la=lb))):=by
 have hal:=ha.len
 have hbl:=hb.len
 refine QS.intro (G:=λF=>VG F ra la/\VG F rb lb) Tryz.func35 rfl wc rfl rfl hF (λF' hF'=>⟨ha.le hF',hb.le hF'⟩)<|wI<|wH rfl<|QG<|wJ rfl<|QA (Qh rfl Xq)<|wE rfl<|QA (Qh rfl Xq)<|QA (QZ rfl rfl rfl)<|QE<|QC ?_
 refine QR I (λhc=>?_) (λhc=>?_)
 ·
  have h10:=bne_iff_ne.1 hc
  refine wI<|wH I<|QY ?_
  exact wL I I (congrArg af (decide_eq_false (λe=>h10 (by rw[<-hal,<-hbl,e])))) wh
 ·
  have h10:=bne_eq_false_iff_eq.1 hc
  refine QQ<|QC<|QG<|wI<|wH I<|QU<|ZK (ι:=SmI la lb) [(0,_),(1,_)] (λi=>[(5,.int .i64 ((i.i:Nat):Int))]) (λi=>la.length - i.i) (⟨0,aw _,rfl⟩) wP wO (λi=>?_)
  simp only[au,av]
  have hi:=i.le
  refine QG<|wJ I<|wE I<|QA (Qh I Xq)<|QA (QZ I I I)<|QE<|QC ?_
  refine QR I (λhc=>?_) (λhc=>?_)
  ·
   have hlt:i.i<la.length:=by have:=wM hc;omega
   have hlt2:i.i<lb.length:=O
   refine QQ<|QC<|QG<|QU<|QG<|JO wK mixed y0<|QK (QD I)<|QK (QD I)<|QK (Q9 (n:=ra.n) i.i (λF h9=>h9.1.row) rfl rfl Xq XD O)<|QK (Ja (n:=ra.n) (vs:=[tx (el la i.i).1,tx (el la i.i).2]) ((i.i)*2) (λF h9=>h9.1.row) O rfl XD I (λj v hv=>Jm (f:=OO) (l:=la) By O hv))<|QK (QD I)<|QK (QD I)<|QK (Q9 (n:=rb.n) i.i (λF h9=>h9.2.row) rfl rfl Xq XD O)<|QK (Ja (n:=rb.n) (vs:=[tx (el lb i.i).1,tx (el lb i.i).2]) ((i.i)*2) (λF h9=>h9.2.row) O rfl XD I (λj v hv=>Jm (f:=OO) (l:=lb) By O hv))<|QK (yg I I)<|Q6<|QC ?_
   refine QR I (λhc=>?_) (λhc=>?_)
   ·
    have hne:¬(el la i.i)=(el lb i.i):=λe=>by rw[e]at hc;simp at hc
    refine wI<|wH I<|QY ?_
    repeat (first | refine JA ?_ | refine Q5 ?_)
    exact wL I I (congrArg af (decide_eq_false (λe=>hne (congrArg (λl=>el l i.i) e)))) wh
   ·
    have heq:(el la i.i)=(el lb i.i):=by simp at hc;exact Prod.ext hc.1 hc.2
    refine QQ<|Qk<|QC<|QB<|wE I<|QA (Qu I I O)<|wF I<|QE ?_
    exact Ql (⟨i.i+1,hlt,i.step hlt hlt2 heq⟩) (by show la.length - (i.i+1)<la.length - i.i;omega) wQ wK wi
  ·
   have hge:i.i=la.length:=by have:=wN hc;have:=i.le;omega
   refine Qz ?_
   repeat (first | refine QW ?_ | refine QP wc ?_)
   refine QX<|QC<|wI<|wH I<|QY ?_
   exact wL I I (congrArg af (decide_eq_true (i.done O hge))) wh
theorem OT{la lb:List (List UInt8)}(hF:Fits F w)(ha:Qy F ra.q ra.n 1 (la.map tx))(hb:Qy F rb.q rb.n 1 (lb.map tx))(hal:la.length=ra.n)(hbl:lb.length=rb.n)(hn:ra.n<=1000000):Qe Tryz.prog 22 [ra.v,rb.v] w F (.bool (decide (la=lb))):=by
 refine QS.intro (G:=λF=>Qy F ra.q ra.n 1 (la.map tx)/\Qy F rb.q rb.n 1 (lb.map tx)) Tryz.func22 rfl wc rfl rfl hF (λF' hF'=>⟨ha.le hF',hb.le hF'⟩)<|wI<|wH rfl<|QG<|wJ rfl<|QA (Qh rfl Yj)<|wE rfl<|QA (Qh rfl Yj)<|QA (QZ rfl rfl rfl)<|QE<|QC ?_
 refine QR I (λhc=>?_) (λhc=>?_)
 ·
  have h10:=bne_iff_ne.1 hc
  refine wI<|wH I<|QY ?_
  exact wL I I (congrArg af (decide_eq_false (λe=>h10 (by rw[<-hal,<-hbl,e])))) wh
 ·
  have h10:=bne_eq_false_iff_eq.1 hc
  refine QQ<|QC<|QG<|wI<|wH I<|QU<|ZK (ι:=SmI la lb) [(0,_),(1,_)] (λi=>[(5,.int .i64 ((i.i:Nat):Int))]) (λi=>la.length - i.i) (⟨0,aw _,rfl⟩) wP wO (λi=>?_)
  simp only[au,av]
  have hi:=i.le
  refine QG<|wJ I<|wE I<|QA (Qh I Yj)<|QA (QZ I I I)<|QE<|QC ?_
  refine QR I (λhc=>?_) (λhc=>?_)
  ·
   have hlt:i.i<la.length:=by have:=wM hc;omega
   have hlt2:i.i<lb.length:=O
   refine QQ<|QC<|QG<|QU<|QG<|JO wK mixed y0<|QK (QD I)<|QK (QD I)<|QK (Q9 (n:=ra.n) i.i wj rfl rfl Yj XA O)<|QK (Jd (n:=ra.n) ((i.i)*1) wj O rfl XA (X8 (f:=tx) (l:=la) O))<|QK (QD I)<|QK (QD I)<|QK (Q9 (n:=rb.n) i.i wk rfl rfl Yj XA O)<|QK (Jd (n:=rb.n) ((i.i)*1) wk O rfl XA (X8 (f:=tx) (l:=lb) O))<|QK (yf I I)<|Q6<|QC ?_
   refine QR I (λhc=>?_) (λhc=>?_)
   ·
    have hne:¬(el la i.i)=(el lb i.i):=bne_iff_ne.1 hc
    refine wI<|wH I<|QY ?_
    repeat (first | refine JA ?_ | refine Q5 ?_)
    exact wL I I (congrArg af (decide_eq_false (λe=>hne (congrArg (λl=>el l i.i) e)))) wh
   ·
    have heq:(el la i.i)=(el lb i.i):=bne_eq_false_iff_eq.1 hc
    refine QQ<|Qk<|QC<|QB<|wE I<|QA (Qu I I O)<|wF I<|QE ?_
    exact Ql (⟨i.i+1,hlt,i.step hlt hlt2 heq⟩) (by show la.length - (i.i+1)<la.length - i.i;omega) wQ wK wi
  ·
   have hge:i.i=la.length:=by have:=wN hc;have:=i.le;omega
   refine Qz ?_
   repeat (first | refine QW ?_ | refine QP wc ?_)
   refine QX<|QC<|wI<|wH I<|QY ?_
   exact wL I I (congrArg af (decide_eq_true (i.done O hge))) wh
structure M4(F:Gs)(y:Zr)(nl:List (List UInt8))(rl:List Pt)(sl:List (List UInt8×List UInt8)):Prop where
 r:Zm F y
 t:H6 y
 n:y.nl=nl
 p:y.rl.map (λe=>Y8 e.2)=rl
 s:y.sl=sl
theorem M4.e{nl:List (List UInt8)}{sl:List (List UInt8×List UInt8)}(h:M4 F y nl rl sl):y.e=TJ nl rl sl:=by unfold Zr.e;rw[h.n,h.p,h.s]
theorem M4.rs{nl:List (List UInt8)}{sl:List (List UInt8×List UInt8)}(h:M4 F y nl rl sl):y.rs=rl.map Xz:=by unfold Zr.rs;rw[<-h.p,List.map_map];rfl
theorem M4.vs{nl:List (List UInt8)}{sl:List (List UInt8×List UInt8)}(h:M4 F y nl rl sl):y.vs=sl.map JF:=by unfold Zr.vs;rw[h.s]
theorem M4.nn{nl:List (List UInt8)}{sl:List (List UInt8×List UInt8)}(h:M4 F y nl rl sl):y.nm.n=nl.length:=by rw[<-h.r.pV,h.n]
theorem M4.le{F':Gs}{nl:List (List UInt8)}{sl:List (List UInt8×List UInt8)}(h:M4 F y nl rl sl)(k:Gs.le F F'):M4 F' y nl rl sl:=⟨h.r.le k,h.t,h.n,h.p,h.s⟩
theorem IK{p:Int}{s:List UInt8}(hF:Fits F w)(hs:s.length<=1000000):QS Tryz.prog 82 [.int .i64 p,tx s] w F (λ(c:Zr)=>c.v) (λc F=>M4 F c [[120]] [[([49],[0,p])]] [(s,s)]):=by
 refine QS.intro (G:=λF=>True) Tryz.func82 rfl wc rfl rfl hF wh<|wI<|Qb zL (λb4=>wG<|wI<|Qa rfl (Qw Wf) RP z_9 rfl rfl (λb5=>wE rfl<|Qa rfl (Qw Q2) JR N3 rfl rfl (λb7=>QA (Qv rfl Du W4 (wD rfl rfl rfl))<|Qa rfl (Qw BK) VH W4 rfl rfl (λb9=>Qa rfl (Qw EZ) NL QDZ rfl rfl (λb10=>wE rfl<|wE rfl<|QA (Qv rfl Zu Xm (wD rfl rfl rfl))<|Qa rfl (Qw Xq) XD Xm rfl rfl (λb14=>QA (Qv rfl QAF zL (.cons (vs:=[_]) rfl rfl rfl .h1 (.cons (vs:=[_]) rfl rfl rfl (.skip .h1) (.cons (vs:=[_]) rfl rfl rfl (.skip (.skip .h1)) .nil))))<|QO (vs:=[_,_,_]) rfl rfl rfl XI rfl .here .h3 wQ<|wG<|QY ?_))))))
 exact QV ((⟨⟨some ⟨b5,0,none⟩,1,1⟩,[[120]],⟨some ⟨b10,0,none⟩,1,1⟩,[gz b9 [kS [49] b7 [0,p]]],⟨some ⟨b14,0,none⟩,1,1⟩,[(s,s)]⟩:Zr)) I (.JW (c:=[_,_,_]) I XI .here .nil) (rfl) (λF h9=>⟨⟨Qy.of h9.1.1.1.1.2 I,Qy.of h9.1.2 I,λe he=>by rw[List.mem_singleton.1 he];exact⟨Qy.of h9.1.1.2 I,λt ht=>by rw[List.mem_singleton.1 ht];exact Wg (k:=[0,p]) h9.1.1.1.2⟩,Qy.of h9.2 I,rfl,rfl,rfl⟩,⟨(by show 1<=1000000;decide),ai _,λs hs=>by rw[List.mem_singleton.1 hs];decide,(by show 1<=1000000;decide),λe he=>by rw[List.mem_singleton.1 he];exact⟨rfl,λt ht=>by rw[List.mem_singleton.1 ht];exact⟨(by show 1<=1000000;decide),(by show 2<=1000000;decide)⟩,(by show 1<=1000000;decide)⟩,(by show 1<=1000000;decide),λs2 hs2=>by rw[List.mem_singleton.1 hs2];exact⟨hs,hs⟩⟩,rfl,rfl,rfl⟩)
theorem Gr(hF:Fits F w):QS Tryz.prog 85 [] w F (λ(c:Zr)=>c.v) (λc F=>M4 F c [[120],[118]] [[([49],[0,0,1])],[([45,49],[0,1,0])]] [([49],[49]),([48],[48])]):=by
 refine QS.intro (G:=λF=>True) Tryz.func85 rfl wc rfl rfl hF wh<|wI<|Qb zL (λb0=>wG<|wI<|Qa rfl (Qw Wf) RP z_9 rfl rfl (λb1=>Qa rfl (Qw Q2) JR N3 rfl rfl (λb2=>QA (Qv rfl Du W4 (wD rfl rfl rfl))<|Qa rfl (Qw BK) VH W4 rfl rfl (λb4=>Qa rfl (Qw Q2) JR N3 rfl rfl (λb5=>QA (Qv rfl Du W4 (wD rfl rfl rfl))<|Qa rfl (Qw BK) VH W4 rfl rfl (λb7=>Qa rfl (Qw EZ) NL QDZ rfl rfl (λb8=>QA (Qv rfl Zu Xm (wD rfl rfl rfl))<|QA (Qv rfl Zu Xm (wD rfl rfl rfl))<|Qa rfl (Qw Xq) XD Xm rfl rfl (λb11=>QA (Qv rfl QAF zL (.cons (vs:=[_]) rfl rfl rfl .h1 (.cons (vs:=[_]) rfl rfl rfl (.skip .h1) (.cons (vs:=[_]) rfl rfl rfl (.skip (.skip .h1)) .nil))))<|QO (vs:=[_,_,_]) rfl rfl rfl XI rfl .here .h3 wQ<|wG<|QY ?_))))))))
 exact QV ((⟨⟨some ⟨b1,0,none⟩,2,2⟩,[[120],[118]],⟨some ⟨b8,0,none⟩,2,2⟩,[gz b4 [kS [49] b2 [0,0,1]],gz b7 [kS [45,49] b5 [0,1,0]]],⟨some ⟨b11,0,none⟩,2,2⟩,[([49],[49]),([48],[48])]⟩:Zr)) I (.JW (c:=[_,_,_]) I XI .here .nil) (rfl) (λF ⟨⟨⟨⟨⟨⟨⟨hT,hs1⟩,hs2⟩,hs4⟩,hs5⟩,hs7⟩,hs8⟩,hs11⟩=>⟨⟨Qy.of hs1 rfl,Qy.of hs8 rfl,λe he=>by
    simp only[aj,ae,or_false]at he
    rcases he with rfl | rfl
    ·exact⟨Qy.of hs4 rfl,λt ht=>by rw[List.mem_singleton.1 ht];exact Wg (k:=[0,0,1]) hs2⟩
    ·exact⟨Qy.of hs7 rfl,λt ht=>by rw[List.mem_singleton.1 ht];exact Wg (k:=[0,1,0]) hs5⟩,Qy.of hs11 rfl,rfl,rfl,rfl⟩,⟨(by show 2<=1000000;decide),ai _,λs hs=>by
    simp only[aj,ae,or_false]at hs
    rcases hs with rfl | rfl<;>decide,(by show 2<=1000000;decide),λe he=>by
    simp only[aj,ae,or_false]at he
    rcases he with rfl | rfl
    ·exact⟨rfl,λt ht=>by rw[List.mem_singleton.1 ht];exact⟨(by show 1<=1000000;decide),(by show 3<=1000000;decide)⟩,(by show 1<=1000000;decide)⟩
    ·exact⟨rfl,λt ht=>by rw[List.mem_singleton.1 ht];exact⟨(by show 2<=1000000;decide),(by show 3<=1000000;decide)⟩,(by show 1<=1000000;decide)⟩,(by show 2<=1000000;decide),λs hs=>by
    simp only[aj,ae,or_false]at hs
    rcases hs with rfl | rfl<;>decide⟩,rfl,rfl,rfl⟩)
def pN(Z D T m:Nat)(p:List Tm):Bool:=decide (p.length<=T)&&p.all λu=>decide (JL u.1<=Z)&&decide (VC u.2 m<=D)&&decide (u.2.length=m)&&u.2.all λk=>decide (0<=k)&&decide (k<=12)
theorem Of{Z D T:Nat}{p:List Tm}(h:pN Z D T m p=true):cK Z D T m p:=by
 unfold pN at h
 simp only[aa,decide_eq_true_eq,ab]at h
 exact⟨h.1,λu hu=>(h.2 u hu).1.1.1,λu hu=>(h.2 u hu).1.1.2,λu hu=>(h.2 u hu).1.2,λu hu k hk=>(h.2 u hu).2 k hk⟩
theorem QB1{Q k:Nat}(h0:0<Q)(hd:(k+1) ∣ Q):Cl Q 1 0 ((((k+1:Nat):Int):Rat)⁻¹):=by
 obtain⟨q,rfl⟩:=hd
 have hq:0<q:=Nat.pos_of_ne_zero (by rintro rfl;simp at h0)
 refine⟨q,?_,?_⟩
 ·rw[ax,Int.natCast_mul]
  have e:Rat.divInt (q:Int) (((k+1:Nat):Int)*(q:Int))=Rat.divInt (1*(q:Int)) (((k+1:Nat):Int)*(q:Int)):=by rw[Int.one_mul]
  rw[e,Rat.divInt_mul_right O,Rat.divInt_eq_div,Rat.div_def,Rat.intCast_one,Rat.one_mul]
 ·rw[ax,Int.natAbs_natCast,Nat.pow_zero,Nat.one_mul];exact Nat.le_mul_of_pos_left _ O
def Q0:Nat:=2^64*720720
theorem D9:0<Q0:=wb
def clB(x:Rat)(b:Nat):Bool:=decide (Q0%x.den=0)&&decide (sz x.num<=b)
theorem gF{x:Rat}{b:Nat}(h:clB x b=true):Cl Q0 1 b x:=by
 unfold clB at h
 simp only[aa,decide_eq_true_eq]at h
 exact Cl.of x D9 (ag h.1) h.2
def R1:List (List Tm):=([[([49],[0,1])]]:List Pt).map Xz
def R2:List (List Tm):=([[([49],[0,2])]]:List Pt).map Xz
def RC:List (List Tm):=([[([49],[0,0,1])],[([45,49],[0,1,0])]]:List Pt).map Xz
theorem k7:∀k,k<16->Cl Q0 1 0 ((((k+1:Nat):Int):Rat)⁻¹):=λk hk=>QB1 D9 (ag ((by decide +kernel:∀k,k<16->Q0%(k+1)=0) k hk))
theorem gK{rs:List (List Tm)}{P:List Tm->Prop}(h:∀p∈rs,P p):∀i,i<rs.length->P (el rs i):=λi hi=>h _ (Q4 hi)
def tuB(D T m n:Nat)(rs:List (List Tm)):Bool:=decide (rs.length=m)&&(rs.all (pN 8 D T (m+1))&&(rs.all (λp=>p.all λu=>decide (Q0%u.1.den=0))&&(decide (tyM Q0 2400 D T (n+1)<=10000000)&&(decide (OE Q0 2400 D T n<=850000)&&(decide (jx 8 D T (OE Q0 2400 D T n)<=900000)&&decide (8+D*(OE Q0 2400 D T n+1)+1<=10000000))))))
theorem QE6:2400+sz (Q0:Int)<=800000:=wb
theorem tuK{D T n:Nat}{rs:List (List Tm)}(hb:0<=b/\b<=64)(hn:n<=14)(hm:m<=900)(h:tuB D T m n rs=true):xu Q0 8 D T m n b rs:=by
 unfold tuB at h
 simp only[aa,decide_eq_true_eq,ab]at h
 obtain⟨h1,h2,h3,k1,k2,k3,k4⟩:=h
 exact⟨D9,hb,Nat.dvd_trans (Nat.pow_dvd_pow 2 (show b.toNat<=64 by omega)) (Nat.dvd_mul_right _ _),λk hk=>k7 k O,gK λp hp=>Of (h2 p hp),gK λp hp u hu=>ag (h3 p hp u hu),h1,hm,wa,k1,k2,QE6,k3,k4⟩
def uu(b:Nat)(x:Rat×Rat):Bool:=clB x.1 b&&clB x.2 b
theorem CL{x:Rat×Rat}{b c:Nat}(hc:b<=c)(h:uu b x=true):VS Q0 1 c x:=by
 unfold uu at h
 rw[aa]at h
 exact⟨(gF h.1).mono D9 (ai _) hc,(gF h.2).mono D9 (ai _) hc⟩
def QDe(m:Nat)(x:List (Rat×Rat)):Bool:=decide (x.length=m)&&(x.all (uu 100)&&x.all λa=>decide (a.1<=a.2))
theorem Uk{D T n:Nat}{x:List (Rat×Rat)}(h:QDe m x=true):XOk Q0 D T m n x:=by
 unfold QDe at h
 simp only[aa,decide_eq_true_eq,ab]at h
 refine⟨h.1,λi hi=>h.2.2 _ (Q4 hi),λa ha=>CL ?_ (h.2.1 a ha)⟩
 unfold zh;omega
def tmB(t:Rat):Bool:=clB t 100&&decide (JL t<=100)
theorem BG{t:Rat}(h:tmB t=true):TmC Q0 t:=by
 unfold tmB at h
 rw[aa,decide_eq_true_eq]at h
 exact⟨(gF h.1).mono D9 (ai _) wa,Nat.le_trans h.2 wa⟩
theorem xu.QF3{Q Z D T n:Nat}{rs:List (List Tm)}(h:xu Q Z D T m n b rs){t:J4}{y:List J4}(ht:VS Q 1 2400 t)(hl:y.length=m)(hy:∀a∈y,VS Q 1 2400 a):FB rs t y (n+1):=(h.ty ht hl hy).ok (by have:=h.n1;omega)
def QEw(m:Nat)(y:List (Rat×Rat)):Bool:=decide (y.length=m)&&y.all λa=>uu 100 a&&(decide (JL a.1<=100)&&decide (JL a.2<=100))
theorem D7{y:List (Rat×Rat)}(h:QEw m y=true):y.length=m/\(∀a∈y,VS Q0 1 2400 a)/\∀a∈y,Xj a 100:=by
 unfold QEw at h
 simp only[aa,decide_eq_true_eq,ab]at h
 exact⟨h.1,λa ha=>CL wa (h.2 a ha).1,λa ha=>(h.2 a ha).2⟩
def QBD(k:Nat)(l:List (Rat×Rat)):Bool:=l.all λa=>decide (JL a.1<=k)&&decide (JL a.2<=k)
theorem OG{k:Nat}{l:List (Rat×Rat)}(h:QBD k l=true):∀a∈l,Xj a k:=λa ha=>by
 unfold QBD at h
 have:=List.all_eq_true.1 h a ha
 rw[aa,decide_eq_true_eq,decide_eq_true_eq]at this
 exact this
theorem e_c:TJ [[120],[118]] [[([49],[0,0,1])],[([45,49],[0,1,0])]] [([49],[49]),([48],[48])]=0:=wb
theorem v_1:JX R1 (JF ([48],[48])) (lV [([49],[50])]) 2=[[(1,2),(1,2),(1 / 2,1)]]:=wb
theorem v_2:Y2 R1 (Qs [48]) (Qs [49,47,50]) (lV [([49],[49])]) 2=some [(1,9 / 4)]:=wb
theorem v_3:AX (Zp R1 (Qs [48]) (Qs [49,47,50]) (lV [([49],[49])]) (lV [([49],[50])])) (lV [([49],[50])])=true:=wb
theorem v_4:Zn R1 (Qs [48]) (Qs [49,47,50]) (lV [([49],[49])]) (lV [([49],[50])]) 1=[(13 / 8,7 / 4)]:=wb
theorem v_5:KJ R1 (Qs [48]) (Qs [49,47,50]) (lV [([49],[49])]) 1 2=some ([(1,9 / 4)],[(3 / 2,2)]):=wb
theorem v_6:Y2 R2 (Qs [48]) (Qs [50]) (lV [([49],[49])]) 4=none:=wb
theorem v_7:G2 R2 (JF ([48],[48])::lV [([45,51],[50])])=[9]:=wb
theorem v_8:Hu RC (JF ([48],[48])::lV [([45,51],[50]),([48],[57])]) 2 2=1:=wb
def T0:List CQ:=(Wb RC 2 10 ((0:Int):Rat) ([([49],[49]),([48],[48])].map JF) ([[49,47,50],[49]].map Qs)).getD []
theorem v_9:Wb RC 2 10 ((0:Int):Rat) ([([49],[49]),([48],[48])].map JF) ([[49,47,50],[49]].map Qs)=some T0:=by
 have h:(Wb RC 2 10 ((0:Int):Rat) ([([49],[49]),([48],[48])].map JF) ([[49,47,50],[49]].map Qs)).isSome=true:=wb
 unfold T0
 cases e:Wb RC 2 10 ((0:Int):Rat) ([([49],[49]),([48],[48])].map JF) ([[49,47,50],[49]].map Qs)with
 |none=>rw[e]at h;cases h
 |some t=>rfl
theorem QFz:T0.length=2/\T0.any OF=false:=wb
theorem zW(hb:0<=b/\b<=64):xu Q0 8 2 2 1 1 b R1:=tuK hb wa wa wb
theorem QDi(hb:0<=b/\b<=64):xu Q0 8 2 2 1 1 b R2:=tuK hb wa wa wb
theorem QF4(hb:0<=b/\b<=64):xu Q0 8 2 2 2 2 b RC:=tuK hb wa wa wb
theorem s_1:seR 0 (JX R1 (JF ([48],[48])) (lV [([49],[50])]) 2)=(0,[[(1,2),(1,2),(1 / 2,1)]]):=by rw[v_1];decide +kernel
theorem s_2:C6 0 (Y2 R1 (Qs [48]) (Qs [49,47,50]) (lV [([49],[49])]) 2)=(0,[(1,9 / 4)]):=by rw[v_2];decide +kernel
theorem s_4:C6 0 (some (Zn R1 (Qs [48]) (Qs [49,47,50]) (lV [([49],[49])]) (lV [([49],[50])]) 1))=(0,[(13 / 8,7 / 4)]):=by rw[v_4];decide +kernel
theorem s_5:dH 0 (KJ R1 (Qs [48]) (Qs [49,47,50]) (lV [([49],[49])]) 1 2) [49,47,50]=(([49,47,50],[(1,9 / 4)],[(3 / 2,2)]),0):=by rw[v_5];decide +kernel
theorem s_6:C6 0 (Y2 R2 (Qs [48]) (Qs [50]) (lV [([49],[49])]) 4)=(25,[]):=by rw[v_6];rfl
theorem s_7:dQ 0 (G2 R2 (JF ([48],[48])::lV [([45,51],[50])]))=(0,[9]):=by rw[v_7];decide +kernel
theorem s_8:lpR 0 (Hu RC (JF ([48],[48])::lV [([45,51],[50]),([48],[57])]) 2 2)=(0,[49]):=by rw[v_8];decide +kernel
theorem s_9:tuR 0 (some T0)=(0,T0):=by rw[BE,QFz.2];rfl
section
variable{w:World}{F:Gs}{y:Zr}{r rz:Sr}(hF:Fits F w)(hGl:JC F)
include hF hGl
theorem Lc(hy:M4 F y [[120]] [[([49],[0,1])]] [([49],[49])])(hx:VG F r [([49],[50])])(hc:DI r [([49],[50])]):
  QS Tryz.prog 25 [y.v,.agg #[tx [48],tx [48]],r.v,.int .i64 2] w F (λ(c:Sr×List Sr)=>.tuple #[c.1.v,.int .i64 0]) (λc F=>CO F c [[(1,2),(1,2),(1 / 2,1)]]):=by
 have hb:=D7 (m:=1) (y:=lV [([49],[50])]) wb
 have h:=yM (t:=([48],[48])) (l:=[([49],[50])]) (o:=2) hF hGl hy.r hy.t ⟨wa,wa⟩ hx hc (λ_=>by
  rw[hy.rs]
  refine⟨(zW (b:=0) ⟨wa,wa⟩).QF3 (CL (b:=100) wa wb) hb.1 hb.2.1,?_⟩
  show ∀b∈JX R1 (JF ([48],[48])) (lV [([49],[50])]) 2,∀a∈b,Xj a 100000000
  rw[v_1]
  intro b hb a ha
  rw[List.mem_singleton.1 hb]at ha
  exact(OG (k:=10) wb a ha).mono wa)
 have e:Fx y ([48],[48]) [([49],[50])] 2=0:=by unfold Fx;rw[hy.e,hy.nn];decide +kernel
 have e1:seR (Fx y ([48],[48]) [([49],[50])] 2) (JX y.rs (JF ([48],[48])) (lV [([49],[50])]) (ak 2))=(0,[[(1,2),(1,2),(1 / 2,1)]]):=by rw[e,hy.rs];exact s_1
 rw[e1]at h
 exact h
theorem gQ(hy:M4 F y [[120]] [[([49],[0,1])]] [([49],[49])])(hx:VG F r [([49],[49])])(hc:DI r [([49],[49])]):
  QS Tryz.prog 83 [y.v,tx [48],r.v,tx [49,47,50],.int .i64 2] w F (λ(c:Sr)=>.tuple #[c.v,.int .i64 0]) (λc F=>Hy F c [(1,9 / 4)]):=by
 have h:=ID (y:=y) (a:=[48]) (b:=[49,47,50]) (l:=[([49],[49])]) (bits:=2) hF hGl hy.r hy.t hx hc wa wa (λ_=>by
  rw[hy.rs]
  exact(PS (zW (b:=2) ⟨wa,wa⟩) (x:=lV [([49],[49])]) (Uk wb) (BG (t:=Qs [48]) wb) (BG (t:=Qs [49,47,50]) wb) wb).1.tr)
 have e:Mf y [48] [([49],[49])] [49,47,50] 2=0:=by unfold Mf KA;rw[hy.e,hy.nn];decide +kernel
 have e1:C6 (Mf y [48] [([49],[49])] [49,47,50] 2) (Y2 y.rs (Qs [48]) (Qs [49,47,50]) (lV [([49],[49])]) 2)=(0,[(1,9 / 4)]):=by rw[e,hy.rs];exact s_2
 rw[e1]at h
 exact h
theorem gS(hy:M4 F y [[120]] [[([49],[0,1])]] [([49],[49])])(hx:VG F r [([49],[49])])(hc:DI r [([49],[49])])(hz:VG F rz [([49],[50])])(hcz:DI rz [([49],[50])]):
  Qe Tryz.prog 62 [y.v,tx [48],r.v,tx [49,47,50],rz.v] w F (.tuple #[.bool true,.int .i64 0]):=by
 have hb:=D7 (m:=1) (y:=lV [([49],[49])]) wb
 have hbz:=D7 (m:=1) (y:=lV [([49],[50])]) wb
 have mv:MvC 8 2 2 1 100 R1 (Qs [48]) (Qs [49,47,50]):=⟨(zW (b:=0) ⟨wa,wa⟩).po,rfl,wb,wb⟩
 have h:=k6 (y:=y) (a:=[48]) (b:=[49,47,50]) (l:=[([49],[49])]) (lw:=[([49],[50])]) hF hGl hy.r hy.t hx hc wa wa hz hcz (λ_=>by
  rw[hy.rs]
  exact⟨AJ mv hb.1 hbz.1 hb.2.2 hbz.2.2 wa wa wa wa wa wa wa,λv hv=>(Oj mv hb.1 hbz.1 hb.2.2 hbz.2.2 wa v hv).mono wa⟩)
 have e:vA y [48] [([49],[49])] [49,47,50] [([49],[50])]=0:=by unfold vA KA;rw[hy.e,hy.nn];decide +kernel
 have e1:AX (Zp y.rs (Qs [48]) (Qs [49,47,50]) (lV [([49],[49])]) (lV [([49],[50])])) (lV [([49],[50])])=true:=by rw[hy.rs];exact v_3
 rw[e,e1]at h
 exact h
theorem QAo(hy:M4 F y [[120]] [[([49],[0,1])]] [([49],[49])])(hx:VG F r [([49],[49])])(hc:DI r [([49],[49])])(hz:VG F rz [([49],[50])])(hcz:DI rz [([49],[50])]):
  QS Tryz.prog 37 [y.v,tx [48],r.v,tx [49,47,50],rz.v,.int .i64 1] w F (λ(c:Sr)=>.tuple #[c.v,.int .i64 0]) (λc F=>Hy F c [(13 / 8,7 / 4)]):=by
 have hb:=D7 (m:=1) (y:=lV [([49],[49])]) wb
 have hbz:=D7 (m:=1) (y:=lV [([49],[50])]) wb
 have tu:=zW (b:=0) ⟨wa,wa⟩
 have t1:=BG (t:=Qs [48]) wb
 have t2:=BG (t:=Qs [49,47,50]) wb
 have h:=jE (y:=y) (a:=[48]) (b:=[49,47,50]) (l:=[([49],[49])]) (lw:=[([49],[50])]) (o:=1) hF hGl hy.r hy.t hx hc wa wa hz hcz (λ_=>by
  rw[hy.rs]
  have h1:=Ci (n:=1) (tu.ty (t:=(Qs [48],Qs [48])) (.pt t1.cl) hb.1 hb.2.1) (tu.ty (t:=(Qs [48],Qs [49,47,50])) ⟨t1.cl,t2.cl⟩ hbz.1 hbz.2.1) (by rw[Rat.sub_eq_add_neg];exact t2.cl.add D9 t1.cl.neg) wa tu.n1 (by have:=tu.n2;omega) (by have:=tu.n3;omega)
  exact⟨h1.1,λv hv=>(h1.2 v hv).mono wa⟩)
 have e:N5 y [48] [([49],[49])] [49,47,50] [([49],[50])] 1=0:=by unfold N5 KA;rw[hy.e,hy.nn];decide +kernel
 have e1:C6 (N5 y [48] [([49],[49])] [49,47,50] [([49],[50])] 1) (some (Zn y.rs (Qs [48]) (Qs [49,47,50]) (lV [([49],[49])]) (lV [([49],[50])]) (ak 1)))=(0,[(13 / 8,7 / 4)]):=by rw[e,hy.rs];exact s_4
 rw[e1]at h
 exact h
theorem gO(hy:M4 F y [[120]] [[([49],[0,1])]] [([49],[49])])(hx:VG F r [([49],[49])])(hc:DI r [([49],[49])]):
  QS Tryz.prog 84 [y.v,tx [48],r.v,tx [49,47,50],.int .i64 1,.int .i64 2] w F (λ(d:Sr×Sr)=>.tuple #[.agg #[tx [49,47,50],d.1.v,d.2.v],.int .i64 0]) (λd F=>Hy F d.1 [(1,9 / 4)]/\Hy F d.2 [(3 / 2,2)]):=by
 have h:=dn (y:=y) (a:=[48]) (b:=[49,47,50]) (l:=[([49],[49])]) (o:=1) (bits:=2) hF hGl hy.r hy.t hx hc wa wa (λ_=>by
  rw[hy.rs]
  exact(PS (zW (b:=2) ⟨wa,wa⟩) (x:=lV [([49],[49])]) (Uk wb) (BG (t:=Qs [48]) wb) (BG (t:=Qs [49,47,50]) wb) wb).1)
 have e:MW y [48] [([49],[49])] [49,47,50] 1 2=0:=by unfold MW KA;rw[hy.e,hy.nn];decide +kernel
 have e1:dH (MW y [48] [([49],[49])] [49,47,50] 1 2) (KJ y.rs (Qs [48]) (Qs [49,47,50]) (lV [([49],[49])]) (ak 1) 2) [49,47,50]=(([49,47,50],[(1,9 / 4)],[(3 / 2,2)]),0):=by rw[e,hy.rs];exact s_5
 rw[e1]at h
 exact h
theorem gP(hy:M4 F y [[120]] [[([49],[0,2])]] [([49],[49])])(hx:VG F r [([49],[49])])(hc:DI r [([49],[49])]):
  QS Tryz.prog 83 [y.v,tx [48],r.v,tx [50],.int .i64 4] w F (λ(c:Sr)=>.tuple #[c.v,.int .i64 25]) (λc F=>Hy F c []):=by
 have h:=ID (y:=y) (a:=[48]) (b:=[50]) (l:=[([49],[49])]) (bits:=4) hF hGl hy.r hy.t hx hc wa wa (λ_=>by
  rw[hy.rs]
  exact(PS (QDi (b:=4) ⟨wa,wa⟩) (x:=lV [([49],[49])]) (Uk wb) (BG (t:=Qs [48]) wb) (BG (t:=Qs [50]) wb) wb).1.tr)
 have e:Mf y [48] [([49],[49])] [50] 4=0:=by unfold Mf KA;rw[hy.e,hy.nn];decide +kernel
 have e1:C6 (Mf y [48] [([49],[49])] [50] 4) (Y2 y.rs (Qs [48]) (Qs [50]) (lV [([49],[49])]) 4)=(25,[]):=by rw[e,hy.rs];exact s_6
 rw[e1]at h
 exact h
theorem QAp(hy:M4 F y [[120]] [[([49],[0,2])]] [([49],[49])])(hx:VG F r [([45,51],[50])])(hc:DI r [([45,51],[50])]):
  QS Tryz.prog 41 [y.v,.agg #[tx [48],tx [48]],r.v] w F (λ(c:Sr)=>.tuple #[c.v,.int .i64 0]) (λc F=>gX F c [9]):=by
 have hb:=D7 (m:=2) (y:=JF ([48],[48])::lV [([45,51],[50])]) wb
 have tu:=QDi (b:=0) ⟨wa,wa⟩
 have h:=yD (y:=y) (t:=([48],[48])) (l:=[([45,51],[50])]) hF hGl hy.r hy.t ⟨wa,wa⟩ hx hc (λ_=>by
  rw[hy.rs]
  exact⟨λi hi=>E4 (S:=100) (tu.po i hi) hb.1 wa hb.2.2 wa wa wa wa,λi hi=>(Gl (S:=100) (tu.po i hi) hb.1 hb.2.2).mono wa,by
   show ∀x∈G2 R2 _,_
   rw[v_7];decide +kernel⟩)
 have e:BQ y ([48],[48]) [([45,51],[50])]=0:=by unfold BQ;rw[hy.e,hy.nn];decide +kernel
 have e1:dQ (BQ y ([48],[48]) [([45,51],[50])]) (G2 y.rs (JF ([48],[48])::lV [([45,51],[50])]))=(0,[9]):=by rw[e,hy.rs];exact s_7
 rw[e1]at h
 exact h
theorem QAq(hy:M4 F y [[120],[118]] [[([49],[0,0,1])],[([45,49],[0,1,0])]] [([49],[49]),([48],[48])])(hx:VG F r [([45,51],[50]),([48],[57])])(hc:DI r [([45,51],[50]),([48],[57])]):
  Qe Tryz.prog 42 [y.v,.agg #[tx [48],tx [48]],r.v] w F (.tuple #[tx [49],.int .i64 0]):=by
 have hb:=D7 (m:=3) (y:=JF ([48],[48])::lV [([45,51],[50]),([48],[57])]) wb
 have hpo:∀p∈RC,∀v,v<2->cK 8 2 2 3 (J6 (Za (v+1) p)):=λp hp v hv=>Of ((by decide +kernel:∀p∈RC,∀v,v<2->pN 8 2 2 3 (J6 (Za (v+1) p))=true) p hp v hv)
 have h:=Ij (y:=y) (t:=([48],[48])) (l:=[([45,51],[50]),([48],[57])]) hF hGl hy.r hy.t ⟨wa,wa⟩ hx hc (λ_=>by
  rw[hy.rs]
  show QFA RC (JF ([48],[48])::lV [([45,51],[50]),([48],[57])]) 2
  exact⟨by
   show ∀p∈RC,∀t∈p,((∀x∈t.2,0<=x/\x<=1000000)/\t.2.length<=1000)/\2<t.2.length
   decide +kernel,wb,wb,wb,wb,λp hp v hv=>E4 (S:=100) (hpo p hp v hv) hb.1 wa hb.2.2 wa wa wa wa,λp hp v hv=>(Gl (S:=100) (hpo p hp v hv) hb.1 hb.2.2).mono wa,wb,wb,wb⟩)
 have e:BQ y ([48],[48]) [([45,51],[50]),([48],[57])]=0:=by unfold BQ;rw[hy.e,hy.nn];decide +kernel
 have e1:lpR (BQ y ([48],[48]) [([45,51],[50]),([48],[57])]) (Hu y.rs (JF ([48],[48])::lV [([45,51],[50]),([48],[57])]) ([([45,51],[50]),([48],[57])]:List (List UInt8×List UInt8)).length y.rs.length)=(0,[49]):=by rw[e,hy.rs];exact s_8
 rw[e1]at h
 exact h
theorem QAn{q:Option Addr}{c:Nat}(hy:M4 F y [[120],[118]] [[([49],[0,0,1])],[([45,49],[0,1,0])]] [([49],[49]),([48],[48])])(hR:Qy F q 2 1 ([[49,47,50],[49]].map tx)):
  QS Tryz.prog 71 [y.v,.slice q 2 c,.int .i64 2,.int .i64 10] w F (λ(c:Sr×List W2)=>.tuple #[c.1.v,.int .i64 0]) (λc F=>Ld F c T0):=by
 have h:=QA2 (y:=y) (es:=[[49,47,50],[49]]) (o:=2) (b:=10) (ce:=c) hF hGl hy.r hy.t hR rfl (.inr wa) (λ_=>by
  rw[hy.rs,hy.vs]
  exact Ce (QF4 (b:=10) ⟨wa,wa⟩) _ _ _ (Uk wb) (BG wb) ⟨⟨BG (t:=Qs [49,47,50]) wb,wb⟩,⟨BG (t:=Qs [49]) wb,wb⟩,trivial⟩)
 have e:tuE y [[49,47,50],[49]] 2 10=0:=by unfold tuE;rw[hy.e];decide +kernel
 have e2:Wb y.rs (ak 2) 10 ((0:Int):Rat) y.vs (([[49,47,50],[49]]:List (List UInt8)).map Qs)=some T0:=by rw[hy.rs,hy.vs];exact v_9
 have e3:=s_9
 revert e2 e3
 generalize T0=T
 intro e2 e3
 rw[e,e2,e3]at h
 exact h
end
abbrev TbD:=List UInt8×List (List UInt8×List UInt8)×List (List UInt8×List UInt8)
def ki(ds:List TbD)(i:Nat):Rat:=if i=0 then((0:Int):Rat)else Qs (el ds (i - 1)).1
def bxD(n:Nat)(ds:List TbD)(i:Nat):Int:=Qn [PC (ki ds i) (el ds i).1,KN n (el ds i).2.1,KN n (el ds i).2.2]
def QA4(n:Nat)(ds:List TbD):Int:=if ds.length>1000 then 5 else Qn ((List.range ds.length).map (bxD n ds))
theorem QA3(n:Nat)(tb:List W2):EK n tb=QA4 n (tb.map W2.d):=by
 unfold EK QA4
 rw[ah]
 split
 ·rfl
 ·congr 1
  refine List.map_congr_left λi hi=>?_
  have hi:=List.mem_range.1 hi
  have e1:el (tb.map W2.d) i=(el tb i).d:=DB W2.d hi
  have e2:ki (tb.map W2.d) i=Hv tb i:=by
   unfold ki Hv
   split
   ·rfl
   ·rw[DB W2.d (show i - 1<tb.length by omega)];rfl
  unfold dG bxD
  rw[e1,e2];rfl
def kpD(x:Rat×Rat)(P:List Tm)(d:TbD):Bool:=!(decide (Ks x.2 (J8 ((Qs d.1,Qs d.1)::lV d.2.2) P).1<0)||decide (Ks (J8 ((Qs d.1,Qs d.1)::lV d.2.2) P).2 x.1<0))
theorem QBx(x:Rat×Rat)(P:List Tm)(tb:List W2):tb.all (uI x P)=(tb.map W2.d).all (kpD x P):=by rw[List.all_map];rfl
def pwB(l:List Int):Bool:=(l.all λx=>decide (0<=x)&&decide (x<=1000000))&&decide (l.length<=1000)
theorem Ts{l:List Int}(h:pwB l=true):PW l:=by
 unfold pwB at h
 simp only[aa,decide_eq_true_eq,ab]at h
 exact⟨λx hx=>h.1 x hx,h.2⟩
def QBn(p q:List Tm)(N:Nat):Bool:=(p.all λt=>decide (t.2.length=N)&&pwB t.2)&&((q.all λt=>decide (t.2.length=N)&&pwB t.2)&&((p.all λs=>q.all λt=>pwB (XH s.2 t.2))&&(decide (p.length<=10000)&&(decide (q.length<=10000)&&(decide (KI p<=20000000)&&(decide (KI q<=20000000)&&decide (KI (Jb p q)<=40000000)))))))
theorem QBl{p q:List Tm}{N:Nat}(h:QBn p q N=true):Lj p q N:=by
 unfold QBn at h
 simp only[aa,decide_eq_true_eq,ab]at h
 obtain⟨h1,h2,h3,h4,h5,h6,h7,h8⟩:=h
 exact⟨λt ht=>(h1 t ht).1,λt ht=>(h2 t ht).1,h4,h5,λt ht=>Ts (h1 t ht).2,λt ht=>Ts (h2 t ht).2,λs hs t ht=>Ts (h3 s hs t ht),h6,h7,h8⟩
def QCN(p q:List Tm):Bool:=(p.all λt=>pwB t.2)&&((q.all λt=>pwB t.2)&&(decide (p.length<=400000000)&&(decide (q.length<=400000000)&&decide (KI (p++q)<=40000000))))
theorem QCM{p q:List Tm}(h:QCN p q=true):qw p q:=by
 unfold QCN at h
 simp only[aa,decide_eq_true_eq,ab]at h
 obtain⟨h1,h2,h3,h4,h5⟩:=h
 exact⟨λt ht=>Ts (h1 t ht),λt ht=>Ts (h2 t ht),h3,h4,h5⟩
def PK:Pt:=[([49],[0,2,0]),([49],[0,0,2])]
theorem QE1:qt RC (Xz PK) 3 where
 n:=rfl
 n1:=wa
 lp:=wa
 pw:=λt ht=>⟨Ts ((by decide +kernel:∀t∈Xz PK,pwB t.2=true) t ht),(by decide +kernel:∀t∈Xz PK,t.2.length=3) t ht⟩
 sp:=wb
 der:=λv hv=>(by decide +kernel:∀v,v<3->KI (Za v (Xz PK))<=40000000) v (by have:RC.length=2:=rfl;omega)
 mul:=λk hk=>QBl ((by decide +kernel:∀k,k<2->QBn (J6 (Za (k+1) (Xz PK))) (el RC k) 3=true) k hk)
 add:=λk hk=>QCM ((by decide +kernel:∀k,k<2->QCN (Ax RC (Xz PK) k) (J6 (Jb (J6 (Za (k+1) (Xz PK))) (el RC k)))=true) k hk)
theorem QEU:Ax RC (Xz PK) RC.length=[]:=wb
theorem QET:QA4 2 (Uo T0)=0:=wb
theorem QEV:(Uo T0).all (kpD (J8 ((((0:Int):Rat),((0:Int):Rat))::([([49],[49]),([48],[48])]:List (List UInt8×List UInt8)).map JF) (Xz PK)) (Xz PK))=true:=wb
theorem qK:cK 8 2 2 3 (Xz PK):=Of wb
def dB(d:TbD):Bool:=decide (d.1.length<=1000)&&(decide (d.2.1.length=2)&&(decide (d.2.2.length=2)&&((d.2.1.all λs=>decide (s.1.length<=1000)&&decide (s.2.length<=1000))&&((d.2.2.all λs=>decide (s.1.length<=1000)&&decide (s.2.length<=1000))&&QBD 2000 ((Qs d.1,Qs d.1)::lV d.2.2)))))
theorem QGY:∀d∈Uo T0,dB d=true:=wb
theorem ku:(Uo T0).length=2:=wb
theorem qY{b:W2}(h:dB b.d=true):b.e.length<=1000/\b.wl.length=2/\b.ll.length=2/\(∀s∈b.wl,s.1.length<=1000/\s.2.length<=1000)/\(∀s∈b.ll,s.1.length<=1000/\s.2.length<=1000)/\∀x∈(Qs b.e,Qs b.e)::lV b.ll,Xj x 2000:=by
 unfold dB at h
 simp only[aa,decide_eq_true_eq,ab]at h
 obtain⟨h1,h2,h3,h4,h5,h6⟩:=h
 exact⟨h1,h2,h3,h4,h5,OG h6⟩
theorem gR{a:S1}{c:Sr×List W2}(hF:Fits F w)(hGl:JC F)(hy:M4 F y [[120],[118]] [[([49],[0,0,1])],[([45,49],[0,1,0])]] [([49],[49]),([48],[48])])(hR:Qy F a.1.q a.1.n 2 (a.2.flatMap Nn))(hA:WQ F a.2)(hta:FC a)(hp:Y8 a.2=PK)(hx:Ld F c T0):
  Qe Tryz.prog 51 [y.v,a.1.v,c.1.v] w F (.tuple #[.bool true,.int .i64 0]):=by
 have hd:=hx.d
 have hlen:c.2.length=2:=by have:=congrArg aq hd;rwa [ah,ku]at this
 have hn:=hx.a.len
 have hb:∀b∈c.2,dB b.d=true:=λb hb=>QGY _ (by rw[<-hd];exact List.mem_map_of_mem hb)
 have hc:QCO c.1 c.2:=⟨O,.inr λb hm=>by
  have h1:=qY (hb b hm)
  have h2:=hx.a.bx b hm
  have h3:=h2.1.len
  have h4:=h2.2.len
  exact⟨O,⟨O,λs hs=>by have:=h1.2.2.2.1 s hs;omega⟩,⟨O,λs hs=>by have:=h1.2.2.2.2.1 s hs;omega⟩⟩⟩
 have e:PA y PK c.2=0:=by
  unfold PA
  have hn2:y.nm.n=2:=hy.nn
  rw[hy.e,hn2,QA3,hd,e_c,QET]
  decide +kernel
 have hvs:=hy.vs
 have hI:uH y PK=true:=by unfold uH;rw[hy.rs];exact decide_eq_true QEU
 have hX:kj y PK=J8 ((((0:Int):Rat),((0:Int):Rat))::([([49],[49]),([48],[48])]:List (List UInt8×List UInt8)).map JF) (Xz PK):=by unfold kj;rw[hvs]
 have h:=uJ (y:=y) (a:=a) (r:=c.1) (tb:=c.2) hF hGl hy.r hy.t hR hA hta hx.a hc (λ_=>by
  rw[hp]
  have hs0:∀x∈(((0:Int):Rat),((0:Int):Rat))::y.vs,Xj x 100:=by rw[hvs];exact OG wb
  have hl0:((((0:Int):Rat),((0:Int):Rat))::y.vs).length=3:=by rw[hvs];rfl
  have hlb:∀b∈c.2,((Qs b.e,Qs b.e)::lV b.ll).length=3:=λb hm=>by rw[List.length_cons,KZ,(qY (hb b hm)).2.2.1]
  exact⟨by rw[hy.rs,hy.nn];exact QE1,E4 (S:=100) qK hl0 wa hs0 wa wa wa wa,(Gl (S:=100) qK hl0 hs0).mono wa,λb hm=>E4 (S:=2000) qK (hlb b hm) wa (qY (hb b hm)).2.2.2.2.2 wa wa wa wa,λb hm=>(Gl (S:=2000) qK (hlb b hm) (qY (hb b hm)).2.2.2.2.2).mono wa⟩)
 rw[hp,ko e hI,QBx,hd,hX,QEV]at h
 exact h
theorem ZZ{b:Nat}{l:List (List UInt8×List UInt8)}{T:TypeId}(h:F b=some ((l.flatMap OO).toArray,T)):VG F ⟨some ⟨b,0,none⟩,l.length,l.length⟩ l:=⟨Qy.of h (Mt (f:=OO) By l),rfl⟩
def QEv(n:Nat)(l:List (List UInt8×List UInt8)):Bool:=decide (n<=1000000)&&l.all λs=>decide (s.1.length<=1000000)&&decide (s.2.length<=1000000)
theorem VV{q:Option Addr}{n c:Nat}{l:List (List UInt8×List UInt8)}(h:QEv n l=true):DI ⟨q,n,c⟩ l:=by
 unfold QEv at h
 simp only[aa,decide_eq_true_eq,ab]at h
 exact⟨h.1,λs hs=>h.2 s hs⟩
theorem M4.st{nl:List (List UInt8)}{sl:List (List UInt8×List UInt8)}(h:M4 F y nl rl sl):VG F y.st sl:=⟨by rw[<-h.s];exact h.r.st,by rw[<-h.s];exact h.r.Us⟩
theorem M4.gq{nl:List (List UInt8)}{sl:List (List UInt8×List UInt8)}(h:M4 F y nl rl sl):DI y.st sl:=⟨h.t.sn,by rw[<-h.s];exact h.t.st⟩
theorem YX{la lb:List (List UInt8×List UInt8)}(hF:Fits F w)(ha:VG F ra la)(hb:VG F rb lb)(hn:ra.n<=1000000)(h:la=lb):Qe Tryz.prog 35 [ra.v,rb.v] w F (.bool true):=by
 have h1:=jK hF ha hb hn
 rwa [decide_eq_true h]at h1
theorem RF{la lb:List (List UInt8)}(hF:Fits F w)(ha:Qy F ra.q ra.n 1 (la.map tx))(hb:Qy F rb.q rb.n 1 (lb.map tx))(hal:la.length=ra.n)(hbl:lb.length=rb.n)(hn:ra.n<=1000000)(h:la=lb):Qe Tryz.prog 22 [ra.v,rb.v] w F (.bool true):=by
 have h1:=OT hF ha hb hal hbl hn
 rwa [decide_eq_true h]at h1
theorem Hy.n1{c:Sr}{v:List (Rat×Rat)}(h:Hy F c v)(hv:v.length<=1000000):c.n<=1000000:=by rw[h.2.1];exact hv
theorem zG(hF:Fits F w)(hGl:JC F):Qe Tryz.prog 16 [] w F (.bool true):=by
 refine QS.intro (G:=λF=>JC F) Tryz.func16 rfl wc rfl rfl hF (λF' hF'=>hGl.le hF')<|wI<|wH rfl<|wI<|QI rfl (λw F hF hGl=>IK (s:=[49]) hF (by show 1<=1000000;decide)) (λc22=>Qb zL (λb1=>QO (vs:=[_,_,_]) I I I XI I .here .h3 wQ<|wG<|QG<|K7 (r:=[0,1,2,3,4,5,6,7,8,9]) wK mixed y0 rfl<|Jp 0 y0 rfl rfl<|QK (QJ (vs:=[_,_,_]) I XI .here .h3 rfl)<|JB<|Jp 2 y0 rfl rfl<|QK (Qv I Zu Xm (wD I I I))<|JB ?_))
 refine Ny 1 3 y0 y0 rfl rfl rfl rfl rfl rfl ?_ ?_
 ·
  refine QN I (λw F hF h9=>WV hF) (λ_=>JB<|Xa 3 y0 y0 rfl rfl rfl ?_)
  refine Qm I (Qw Xq) XD Xm I I (λb27=>?_) (λw h=>h.imp wm wj)
  refine JB<|Xa 4 y0 y0 rfl rfl rfl<|QN rfl (λw F hF h9=>Lc (y:=c22) (r:=⟨some ⟨b27,0,none⟩,1,1⟩) hF h9.1.1.1 h9.1.1.2 (ZZ (l:=[([49],[50])]) h9.2) (VV wb)) (λc28=>Y5 _ (λw F hF h=>ao h.2.QDk h.2.len) (λhnn=>?_))
  obtain⟨n28,l28⟩:=hnn
  have n28:c28.1.n=1:=n28
  rw[n28]at l28
  refine JB<|Jp 5 y0 rfl rfl<|QK (QD I)<|JB<|Jp 6 y0 rfl rfl<|QK (QT I I)<|JB<|Jp 7 y0 rfl rfl<|QK (QT I I)<|JB<|Jp 8 y0 rfl rfl<|QK (QF I)<|JB<|Jp 9 y0 rfl rfl<|QK (QF I)<|JB<|Y4<|QC<|wI<|QA (QJ (vs:=[_,_,_]) I XI .here .h3 rfl)<|QA (QH I K3 XJ)<|QA (Qg I XJ .here (.skip (.skip .h1)))<|QI I (λw F hF ⟨⟨⟨⟨hGl,h22⟩,_⟩,hs27⟩,h28⟩=>gQ (y:=c22) (r:=c22.st) hF hGl h22 h22.st h22.gq) (λc35=>wE I ?_)
  refine QA (QT I I)<|QA (QT I I)<|wF I<|wH I<|wI<|QA (QJ (vs:=[_,_,_]) I XI .here .h3 rfl)<|QA (QH I K3 XJ)<|QA (Qg I XJ .here (.skip (.skip .h1)))<|QA (Qv I Zu Xm (wD I I I))<|Qa I (Qw Xq) XD Xm I I (λb43=>QI I (λw F hF ⟨⟨⟨⟨⟨⟨hGl,h22⟩,_⟩,hs27⟩,h28⟩,h35⟩,hs43⟩=>gS (y:=c22) (r:=c22.st) (rz:=⟨some ⟨b43,0,none⟩,1,1⟩) hF hGl h22 h22.st h22.gq (ZZ (l:=[([49],[50])]) hs43) (VV wb)) (λ_=>wE I<|QA (QT I I)<|QA (QT I I)<|wF I<|wH I<|wI<|QA (QJ (vs:=[_,_,_]) I XI .here .h3 rfl)<|QA (QH I K3 XJ) ?_))
  refine QA (Qg I XJ .here (.skip (.skip .h1)))<|QA (Qv I Zu Xm (wD I I I))<|Qa I (Qw Xq) XD Xm I I (λb52=>QI I (λw F hF ⟨⟨⟨⟨⟨⟨⟨⟨hGl,h22⟩,_⟩,hs27⟩,h28⟩,h35⟩,hs43⟩,_⟩,hs52⟩=>QAo (y:=c22) (r:=c22.st) (rz:=⟨some ⟨b52,0,none⟩,1,1⟩) hF hGl h22 h22.st h22.gq (ZZ (l:=[([49],[50])]) hs52) (VV wb)) (λc53=>wE I<|QA (QT I I)<|QA (QT I I)<|wF I<|wH I<|wI<|QA (QJ (vs:=[_,_,_]) I XI .here .h3 rfl)<|QA (QH I K3 XJ)<|QA (Qg I XJ .here (.skip (.skip .h1)))<|QI I (λw F hF ⟨⟨⟨⟨⟨⟨⟨⟨⟨hGl,h22⟩,_⟩,hs27⟩,h28⟩,h35⟩,hs43⟩,_⟩,hs52⟩,h53⟩=>gO (y:=c22) (r:=c22.st) hF hGl h22 h22.st h22.gq) (λc60=>wE I<|QA (QT I I)<|QA (QT I I)<|Qb W3 (λb10=>QO (vs:=[_,_,_]) I I I ZF I .here .h3 wQ<|wF I<|QE<|QC ?_))))
  refine QG<|JO wK mixed y0<|QN I (λw F hF h9=>IK (s:=[49]) hF (by show 1<=1000000;decide)) (λc64=>QK (QH I K3 XJ)<|QK (Qg I XJ .u1 (.skip (.skip .h1)))<|QN I (λw F hF h9=>gP (y:=c64) (r:=c22.st) hF h9.1.1.1.1.1.1.1.1.1.1.1 h9.2 h9.1.1.1.1.1.1.1.1.1.1.2.st h9.1.1.1.1.1.1.1.1.1.1.2.gq) (λc67=>QK (QD I)<|QK (QT I I)<|QK (QT I I)<|QK (QF I)<|QK (QF I)<|Q6<|QC<|wI<|QI I (λw F hF h9=>IK (s:=[49]) hF (by show 1<=1000000;decide)) (λc71=>QI I (λw F hF h9=>WV hF) (λ_=>QA (Qv I Zu Xm (wD I I I))<|Qa I (Qw Xq) XD Xm I I (λb74=>QI I (λw F hF h9=>QAp (y:=c71) (r:=⟨some ⟨b74,0,none⟩,1,1⟩) hF h9.1.1.1.1.1.1.1.1.1.1.1.1.1.1.1 h9.1.1.2 (ZZ (l:=[([45,51],[50])]) h9.2) (VV wb)) (λc75=>wE I<|QA (QT I I)<|QA (QT I I)<|wF I<|wF I ?_))))))
  refine wG<|wI<|QI rfl (λw F hF h9=>Gr hF) (λc79=>QI rfl (λw F hF h9=>WV hF) (λ_=>QA (Qv rfl Zu Xm (wD rfl rfl rfl))<|QA (Qv rfl Zu Xm (wD rfl rfl rfl))<|Qa rfl (Qw Xq) XD Xm rfl rfl (λb83=>QI rfl (λw F hF h9=>QAq (y:=c79) (r:=⟨some ⟨b83,0,none⟩,2,2⟩) hF h9.1.1.1.1.1.1.1.1.1.1.1.1.1.1.1.1.1.1.1 h9.1.1.2 (ZZ (l:=[([45,51],[50]),([48],[57])]) h9.2) (VV wb)) (λ_=>wE rfl<|QA (QT rfl rfl)<|QA (QT rfl rfl)<|wF rfl<|wH rfl<|wI<|QI rfl (λw F hF h9=>Gr hF) (λc88=>Qa rfl (Qw Yj) XA Lz rfl rfl (λb89=>QI rfl (λw F hF h9=>QAn (y:=c88) (q:=some ⟨b89,0,none⟩) (c:=2) hF h9.1.1.1.1.1.1.1.1.1.1.1.1.1.1.1.1.1.1.1.1.1.1 h9.1.2 (Qy.of (n:=2) (sz:=1) (cs:=[[49,47,50],[49]].map tx) h9.2 rfl)) (λc90=>JQ _ (λw F hF h=>ao h.2.a.len h.2.d) (λhnn=>?_))))))))
  obtain⟨l90,d90⟩:=hnn
  have n90:c90.1.n=2:=by have:=congrArg aq d90;rw[ah,ku]at this;omega
  refine wE I<|QA (QT I I)<|QA (QT I I)<|wF I<|wH I<|wI<|QI I (λw F hF h9=>Gr hF) (λc94=>Qa I (Qw Q2) JR N3 I I (λb95=>QA (Qv I Du W4 (wD I I I))<|Qa I (Qw Q2) JR N3 I I (λb97=>QA (Qv I Du W4 (wD I I I))<|Qa I (Qw BK) VH W4 I I (λb99=>wE I<|QI I (λw F hF h9=>gR (y:=c94) (a:=(gz b99 [kS [49] b95 [0,2,0],kS [49] b97 [0,0,2]])) (c:=c90) hF h9.1.1.1.1.1.1.1.1.1.1.1.1.1.1.1.1.1.1.1.1.1.1.1.1.1.1.1 h9.1.1.1.2 (qE (ts:=[kS [49] b95 [0,2,0],kS [49] b97 [0,0,2]]) h9.2) (QEz (Wg (k:=[0,2,0]) h9.1.1.2) (QE0 (Wg (k:=[0,0,2]) h9.1.2))) (cd PK I wa wa) rfl h9.1.1.1.1.2) (λ_=>wE I<|QA (QT I I)<|QA (QT I I)<|wF I<|wH I<|QG ?_)))))
  refine wJ I<|wE I<|QA (Qu I I O)<|wE I<|QA (Qu I I O)<|wE I<|QA (Qu I I O)<|wE I<|QA (Qu I I O)<|wE I<|QA (Qu I I O)<|wE I<|QA (Qu I I O)<|wE I<|QA (Qu I I O)<|wE I<|QA (Qu I I O)<|QA (QZ (v:=.bool false) rfl rfl rfl)<|wE I<|QM I I<|wE I<|QM I I<|QA (QZ (v:=.bool false) rfl rfl rfl) ?_
  refine QA (Qj I I I)<|wE I<|QM I I<|wE I<|QM I I<|QA (YN I)<|QA (Qj I I I)<|wE I<|QM I I<|wE I<|QM I I<|QA (YN I)<|QA (Qj I I I)<|wE I<|QM I I<|wE I<|QM I I<|QA (Qh I EY)<|QM I I ?_
  rw[n90]
  refine QA (QZ (v:=.bool false) rfl rfl rfl)<|QA (Qj I I I)<|wE I<|QM I I<|wE I<|QM I I<|QA (QZ (v:=.bool false) rfl rfl (QEO _))<|QA (Qj I I I)<|wE I<|QM I I<|wE I<|QM I I<|Qa I (Qw Yj) XA Lz I I (λb145=>QM I I<|QI I (λw F hF h9=>RF (la:=[(9:Rat)].map Je) (lb:=[[57]]) (rb:=⟨some ⟨b145,0,none⟩,1,1⟩) hF h9.1.1.1.1.1.1.1.1.1.1.1.1.1.2.1 (Qy.of (n:=1) (sz:=1) (cs:=[[57]].map tx) h9.2 I) h9.1.1.1.1.1.1.1.1.1.1.1.1.1.2.2.1.symm I (by rw[h9.1.1.1.1.1.1.1.1.1.1.1.1.1.2.2.1];decide) wb) (λ_=>QM I I<|QA (YN I)<|QA (Qj I I I)<|wG<|Ko I<|QQ<|QC<|QG<|QG ?_))
  refine QB<|wE I<|QA (Qh I Tj) ?_
  rw[n28]
  refine QA (QZ (v:=.bool false) rfl rfl rfl)<|wE I<|QM I I<|wE I<|QM I I<|QA (Q9 (n:=c28.1.n) (0) (λF h9=>h9.1.1.1.1.1.1.1.1.1.1.1.1.1.1.1.1.1.1.1.1.1.1.1.1.1.1.2.row) rfl wA Tj XJ O)<|QM I I<|QA (Jd (n:=c28.1.n) ((0)*1) (λF h9=>h9.1.1.1.1.1.1.1.1.1.1.1.1.1.1.1.1.1.1.1.1.1.1.1.1.1.1.2.row) O rfl XJ (X8 (f:=Sr.v) (l:=c28.2) O))<|QM I I<|QA (Qv I Zu Xm (wD I I I))<|QM I I<|QA (Qv I Zu Xm (wD I I I))<|QM I I<|QA (Qv I Zu Xm (wD I I I))<|QM I I<|Qa I (Qw Xq) XD Xm I I (λb159=>QM I I<|QI I (λw F hF h9=>YX (ra:=el c28.2 0) (rb:=⟨some ⟨b159,0,none⟩,3,3⟩) hF (h9.1.1.1.1.1.1.1.1.1.1.1.1.1.1.1.1.1.1.1.1.1.1.1.1.1.1.1.2.el 0 wa).qg (ZZ (l:=[([49],[50]),([49],[50]),([49,47,50],[49])]) h9.2) ((h9.1.1.1.1.1.1.1.1.1.1.1.1.1.1.1.1.1.1.1.1.1.1.1.1.1.1.1.2.el 0 wa).n1 wa) wb) (λ_=>QM I I<|QA (YN I)<|QA (Qj I I I)<|wE I<|QM I I<|wE I<|QM I I ?_))
  refine QA (Qv I Zu Xm (wD I I I))<|QM I I<|Qa I (Qw Xq) XD Xm I I (λb166=>QM I I<|QI I (λw F hF h9=>YX (ra:=c35) (rb:=⟨some ⟨b166,0,none⟩,1,1⟩) hF h9.1.1.1.1.1.1.1.1.1.1.1.1.1.1.1.1.1.1.1.1.1.1.1.1.1.1.1.1.2.qg (ZZ (l:=[([49],[57,47,52])]) h9.2) (h9.1.1.1.1.1.1.1.1.1.1.1.1.1.1.1.1.1.1.1.1.1.1.1.1.1.1.1.1.2.n1 wa) wb) (λ_=>QM I I<|QA (YN I)<|QA (Qj I I I)<|wG<|Ko I<|QQ<|QC<|wJ I<|QA (Qv I Zu Xm (wD I I I))<|Qa I (Qw Xq) XD Xm I I (λb172=>QI I (λw F hF h9=>YX (ra:=c53) (rb:=⟨some ⟨b172,0,none⟩,1,1⟩) hF h9.1.1.1.1.1.1.1.1.1.1.1.1.1.1.1.1.1.1.1.1.1.1.1.1.1.1.2.qg (ZZ (l:=[([49,51,47,56],[55,47,52])]) h9.2) (h9.1.1.1.1.1.1.1.1.1.1.1.1.1.1.1.1.1.1.1.1.1.1.1.1.1.1.2.n1 wa) wb) (λ_=>wE I<|QM I I<|QA (QH I E2 XA)<|QM I I<|QA (Qg I XA .here .h1)<|QM I I ?_))))
  refine QA (Vr I I)<|QA (Qp I I I)<|wE I<|QM I I<|QA (QH I Ah XJ)<|QM I I<|QA (Qg I XJ .here (.skip .h1))<|QM I I<|wE I<|QM I I<|QI I (λw F hF h9=>YX (ra:=c60.1) (rb:=c35) hF h9.1.1.1.1.1.1.1.1.1.1.1.1.1.1.1.1.1.1.1.1.1.1.1.1.1.1.2.1.qg h9.1.1.1.1.1.1.1.1.1.1.1.1.1.1.1.1.1.1.1.1.1.1.1.1.1.1.1.1.1.1.1.2.qg (h9.1.1.1.1.1.1.1.1.1.1.1.1.1.1.1.1.1.1.1.1.1.1.1.1.1.1.2.1.n1 wa) rfl) (λ_=>QA (Qp I I I)<|wE I<|QM I I<|QA (QH I Ph XJ)<|QM I I<|QA (Qg I XJ .here (.skip (.skip .h1)))<|QM I I<|QA (Qv I Zu Xm (wD I I I))<|QM I I<|Qa I (Qw Xq) XD Xm I I (λb189=>QM I I<|QI I (λw F hF h9=>YX (ra:=c60.2) (rb:=⟨some ⟨b189,0,none⟩,1,1⟩) hF h9.1.1.1.1.1.1.1.1.1.1.1.1.1.1.1.1.1.1.1.1.1.1.1.1.1.1.1.1.2.2.qg (ZZ (l:=[([51,47,50],[50])]) h9.2) (h9.1.1.1.1.1.1.1.1.1.1.1.1.1.1.1.1.1.1.1.1.1.1.1.1.1.1.1.1.2.2.n1 wa) wb) (λ_=>QA (Qp I I I)<|wF I ?_)))
  refine wG<|QY ?_
  exact wL I I (rfl) wh
 ·
  refine Qm I (Qw Xq) XD Xm I I (λb27=>?_) (λw h=>h.imp wm wi)
  refine JB<|Xa 1 y0 y0 rfl rfl rfl<|QN rfl (λw F hF h9=>WV hF) (λ_=>JB<|Xa 4 y0 y0 rfl rfl rfl<|QN rfl (λw F hF h9=>Lc (y:=c22) (r:=⟨some ⟨b27,0,none⟩,1,1⟩) hF h9.1.1.1 h9.1.1.2 (ZZ (l:=[([49],[50])]) h9.1.2) (VV wb)) (λc28=>Y5 _ (λw F hF h=>ao h.2.QDk h.2.len) (λhnn=>?_)))
  obtain⟨n28,l28⟩:=hnn
  have n28:c28.1.n=1:=n28
  rw[n28]at l28
  refine JB<|Jp 5 y0 rfl rfl<|QK (QD I)<|JB<|Jp 6 y0 rfl rfl<|QK (QT I I)<|JB<|Jp 7 y0 rfl rfl<|QK (QT I I)<|JB<|Jp 8 y0 rfl rfl<|QK (QF I)<|JB<|Jp 9 y0 rfl rfl<|QK (QF I)<|JB<|Y4<|QC<|wI<|QA (QJ (vs:=[_,_,_]) I XI .here .h3 rfl)<|QA (QH I K3 XJ)<|QA (Qg I XJ .here (.skip (.skip .h1)))<|QI I (λw F hF ⟨⟨⟨⟨hGl,h22⟩,hs27⟩,_⟩,h28⟩=>gQ (y:=c22) (r:=c22.st) hF hGl h22 h22.st h22.gq) (λc35=>wE I ?_)
  refine QA (QT I I)<|QA (QT I I)<|wF I<|wH I<|wI<|QA (QJ (vs:=[_,_,_]) I XI .here .h3 rfl)<|QA (QH I K3 XJ)<|QA (Qg I XJ .here (.skip (.skip .h1)))<|QA (Qv I Zu Xm (wD I I I))<|Qa I (Qw Xq) XD Xm I I (λb43=>QI I (λw F hF ⟨⟨⟨⟨⟨⟨hGl,h22⟩,hs27⟩,_⟩,h28⟩,h35⟩,hs43⟩=>gS (y:=c22) (r:=c22.st) (rz:=⟨some ⟨b43,0,none⟩,1,1⟩) hF hGl h22 h22.st h22.gq (ZZ (l:=[([49],[50])]) hs43) (VV wb)) (λ_=>wE I<|QA (QT I I)<|QA (QT I I)<|wF I<|wH I<|wI<|QA (QJ (vs:=[_,_,_]) I XI .here .h3 rfl)<|QA (QH I K3 XJ) ?_))
  refine QA (Qg I XJ .here (.skip (.skip .h1)))<|QA (Qv I Zu Xm (wD I I I))<|Qa I (Qw Xq) XD Xm I I (λb52=>QI I (λw F hF ⟨⟨⟨⟨⟨⟨⟨⟨hGl,h22⟩,hs27⟩,_⟩,h28⟩,h35⟩,hs43⟩,_⟩,hs52⟩=>QAo (y:=c22) (r:=c22.st) (rz:=⟨some ⟨b52,0,none⟩,1,1⟩) hF hGl h22 h22.st h22.gq (ZZ (l:=[([49],[50])]) hs52) (VV wb)) (λc53=>wE I<|QA (QT I I)<|QA (QT I I)<|wF I<|wH I<|wI<|QA (QJ (vs:=[_,_,_]) I XI .here .h3 rfl)<|QA (QH I K3 XJ)<|QA (Qg I XJ .here (.skip (.skip .h1)))<|QI I (λw F hF ⟨⟨⟨⟨⟨⟨⟨⟨⟨hGl,h22⟩,hs27⟩,_⟩,h28⟩,h35⟩,hs43⟩,_⟩,hs52⟩,h53⟩=>gO (y:=c22) (r:=c22.st) hF hGl h22 h22.st h22.gq) (λc60=>wE I<|QA (QT I I)<|QA (QT I I)<|Qb W3 (λb10=>QO (vs:=[_,_,_]) I I I ZF I .here .h3 wQ<|wF I<|QE<|QC ?_))))
  refine QG<|JO wK mixed y0<|QN I (λw F hF h9=>IK (s:=[49]) hF (by show 1<=1000000;decide)) (λc64=>QK (QH I K3 XJ)<|QK (Qg I XJ .u1 (.skip (.skip .h1)))<|QN I (λw F hF h9=>gP (y:=c64) (r:=c22.st) hF h9.1.1.1.1.1.1.1.1.1.1.1 h9.2 h9.1.1.1.1.1.1.1.1.1.1.2.st h9.1.1.1.1.1.1.1.1.1.1.2.gq) (λc67=>QK (QD I)<|QK (QT I I)<|QK (QT I I)<|QK (QF I)<|QK (QF I)<|Q6<|QC<|wI<|QI I (λw F hF h9=>IK (s:=[49]) hF (by show 1<=1000000;decide)) (λc71=>QI I (λw F hF h9=>WV hF) (λ_=>QA (Qv I Zu Xm (wD I I I))<|Qa I (Qw Xq) XD Xm I I (λb74=>QI I (λw F hF h9=>QAp (y:=c71) (r:=⟨some ⟨b74,0,none⟩,1,1⟩) hF h9.1.1.1.1.1.1.1.1.1.1.1.1.1.1.1 h9.1.1.2 (ZZ (l:=[([45,51],[50])]) h9.2) (VV wb)) (λc75=>wE I<|QA (QT I I)<|QA (QT I I)<|wF I<|wF I ?_))))))
  refine wG<|wI<|QI rfl (λw F hF h9=>Gr hF) (λc79=>QI rfl (λw F hF h9=>WV hF) (λ_=>QA (Qv rfl Zu Xm (wD rfl rfl rfl))<|QA (Qv rfl Zu Xm (wD rfl rfl rfl))<|Qa rfl (Qw Xq) XD Xm rfl rfl (λb83=>QI rfl (λw F hF h9=>QAq (y:=c79) (r:=⟨some ⟨b83,0,none⟩,2,2⟩) hF h9.1.1.1.1.1.1.1.1.1.1.1.1.1.1.1.1.1.1.1 h9.1.1.2 (ZZ (l:=[([45,51],[50]),([48],[57])]) h9.2) (VV wb)) (λ_=>wE rfl<|QA (QT rfl rfl)<|QA (QT rfl rfl)<|wF rfl<|wH rfl<|wI<|QI rfl (λw F hF h9=>Gr hF) (λc88=>Qa rfl (Qw Yj) XA Lz rfl rfl (λb89=>QI rfl (λw F hF h9=>QAn (y:=c88) (q:=some ⟨b89,0,none⟩) (c:=2) hF h9.1.1.1.1.1.1.1.1.1.1.1.1.1.1.1.1.1.1.1.1.1.1 h9.1.2 (Qy.of (n:=2) (sz:=1) (cs:=[[49,47,50],[49]].map tx) h9.2 rfl)) (λc90=>JQ _ (λw F hF h=>ao h.2.a.len h.2.d) (λhnn=>?_))))))))
  obtain⟨l90,d90⟩:=hnn
  have n90:c90.1.n=2:=by have:=congrArg aq d90;rw[ah,ku]at this;omega
  refine wE I<|QA (QT I I)<|QA (QT I I)<|wF I<|wH I<|wI<|QI I (λw F hF h9=>Gr hF) (λc94=>Qa I (Qw Q2) JR N3 I I (λb95=>QA (Qv I Du W4 (wD I I I))<|Qa I (Qw Q2) JR N3 I I (λb97=>QA (Qv I Du W4 (wD I I I))<|Qa I (Qw BK) VH W4 I I (λb99=>wE I<|QI I (λw F hF h9=>gR (y:=c94) (a:=(gz b99 [kS [49] b95 [0,2,0],kS [49] b97 [0,0,2]])) (c:=c90) hF h9.1.1.1.1.1.1.1.1.1.1.1.1.1.1.1.1.1.1.1.1.1.1.1.1.1.1.1 h9.1.1.1.2 (qE (ts:=[kS [49] b95 [0,2,0],kS [49] b97 [0,0,2]]) h9.2) (QEz (Wg (k:=[0,2,0]) h9.1.1.2) (QE0 (Wg (k:=[0,0,2]) h9.1.2))) (cd PK I wa wa) rfl h9.1.1.1.1.2) (λ_=>wE I<|QA (QT I I)<|QA (QT I I)<|wF I<|wH I<|QG ?_)))))
  refine wJ I<|wE I<|QA (Qu I I O)<|wE I<|QA (Qu I I O)<|wE I<|QA (Qu I I O)<|wE I<|QA (Qu I I O)<|wE I<|QA (Qu I I O)<|wE I<|QA (Qu I I O)<|wE I<|QA (Qu I I O)<|wE I<|QA (Qu I I O)<|QA (QZ (v:=.bool false) rfl rfl rfl)<|wE I<|QM I I<|wE I<|QM I I<|QA (QZ (v:=.bool false) rfl rfl rfl) ?_
  refine QA (Qj I I I)<|wE I<|QM I I<|wE I<|QM I I<|QA (YN I)<|QA (Qj I I I)<|wE I<|QM I I<|wE I<|QM I I<|QA (YN I)<|QA (Qj I I I)<|wE I<|QM I I<|wE I<|QM I I<|QA (Qh I EY)<|QM I I ?_
  rw[n90]
  refine QA (QZ (v:=.bool false) rfl rfl rfl)<|QA (Qj I I I)<|wE I<|QM I I<|wE I<|QM I I<|QA (QZ (v:=.bool false) rfl rfl (QEO _))<|QA (Qj I I I)<|wE I<|QM I I<|wE I<|QM I I<|Qa I (Qw Yj) XA Lz I I (λb145=>QM I I<|QI I (λw F hF h9=>RF (la:=[(9:Rat)].map Je) (lb:=[[57]]) (rb:=⟨some ⟨b145,0,none⟩,1,1⟩) hF h9.1.1.1.1.1.1.1.1.1.1.1.1.1.2.1 (Qy.of (n:=1) (sz:=1) (cs:=[[57]].map tx) h9.2 I) h9.1.1.1.1.1.1.1.1.1.1.1.1.1.2.2.1.symm I (by rw[h9.1.1.1.1.1.1.1.1.1.1.1.1.1.2.2.1];decide) wb) (λ_=>QM I I<|QA (YN I)<|QA (Qj I I I)<|wG<|Ko I<|QQ<|QC<|QG<|QG ?_))
  refine QB<|wE I<|QA (Qh I Tj) ?_
  rw[n28]
  refine QA (QZ (v:=.bool false) rfl rfl rfl)<|wE I<|QM I I<|wE I<|QM I I<|QA (Q9 (n:=c28.1.n) (0) (λF h9=>h9.1.1.1.1.1.1.1.1.1.1.1.1.1.1.1.1.1.1.1.1.1.1.1.1.1.1.2.row) rfl wA Tj XJ O)<|QM I I<|QA (Jd (n:=c28.1.n) ((0)*1) (λF h9=>h9.1.1.1.1.1.1.1.1.1.1.1.1.1.1.1.1.1.1.1.1.1.1.1.1.1.1.2.row) O rfl XJ (X8 (f:=Sr.v) (l:=c28.2) O))<|QM I I<|QA (Qv I Zu Xm (wD I I I))<|QM I I<|QA (Qv I Zu Xm (wD I I I))<|QM I I<|QA (Qv I Zu Xm (wD I I I))<|QM I I<|Qa I (Qw Xq) XD Xm I I (λb159=>QM I I<|QI I (λw F hF h9=>YX (ra:=el c28.2 0) (rb:=⟨some ⟨b159,0,none⟩,3,3⟩) hF (h9.1.1.1.1.1.1.1.1.1.1.1.1.1.1.1.1.1.1.1.1.1.1.1.1.1.1.1.2.el 0 wa).qg (ZZ (l:=[([49],[50]),([49],[50]),([49,47,50],[49])]) h9.2) ((h9.1.1.1.1.1.1.1.1.1.1.1.1.1.1.1.1.1.1.1.1.1.1.1.1.1.1.1.2.el 0 wa).n1 wa) wb) (λ_=>QM I I<|QA (YN I)<|QA (Qj I I I)<|wE I<|QM I I<|wE I<|QM I I ?_))
  refine QA (Qv I Zu Xm (wD I I I))<|QM I I<|Qa I (Qw Xq) XD Xm I I (λb166=>QM I I<|QI I (λw F hF h9=>YX (ra:=c35) (rb:=⟨some ⟨b166,0,none⟩,1,1⟩) hF h9.1.1.1.1.1.1.1.1.1.1.1.1.1.1.1.1.1.1.1.1.1.1.1.1.1.1.1.1.2.qg (ZZ (l:=[([49],[57,47,52])]) h9.2) (h9.1.1.1.1.1.1.1.1.1.1.1.1.1.1.1.1.1.1.1.1.1.1.1.1.1.1.1.1.2.n1 wa) wb) (λ_=>QM I I<|QA (YN I)<|QA (Qj I I I)<|wG<|Ko I<|QQ<|QC<|wJ I<|QA (Qv I Zu Xm (wD I I I))<|Qa I (Qw Xq) XD Xm I I (λb172=>QI I (λw F hF h9=>YX (ra:=c53) (rb:=⟨some ⟨b172,0,none⟩,1,1⟩) hF h9.1.1.1.1.1.1.1.1.1.1.1.1.1.1.1.1.1.1.1.1.1.1.1.1.1.1.2.qg (ZZ (l:=[([49,51,47,56],[55,47,52])]) h9.2) (h9.1.1.1.1.1.1.1.1.1.1.1.1.1.1.1.1.1.1.1.1.1.1.1.1.1.1.2.n1 wa) wb) (λ_=>wE I<|QM I I<|QA (QH I E2 XA)<|QM I I<|QA (Qg I XA .here .h1)<|QM I I ?_))))
  refine QA (Vr I I)<|QA (Qp I I I)<|wE I<|QM I I<|QA (QH I Ah XJ)<|QM I I<|QA (Qg I XJ .here (.skip .h1))<|QM I I<|wE I<|QM I I<|QI I (λw F hF h9=>YX (ra:=c60.1) (rb:=c35) hF h9.1.1.1.1.1.1.1.1.1.1.1.1.1.1.1.1.1.1.1.1.1.1.1.1.1.1.2.1.qg h9.1.1.1.1.1.1.1.1.1.1.1.1.1.1.1.1.1.1.1.1.1.1.1.1.1.1.1.1.1.1.1.2.qg (h9.1.1.1.1.1.1.1.1.1.1.1.1.1.1.1.1.1.1.1.1.1.1.1.1.1.1.2.1.n1 wa) rfl) (λ_=>QA (Qp I I I)<|wE I<|QM I I<|QA (QH I Ph XJ)<|QM I I<|QA (Qg I XJ .here (.skip (.skip .h1)))<|QM I I<|QA (Qv I Zu Xm (wD I I I))<|QM I I<|Qa I (Qw Xq) XD Xm I I (λb189=>QM I I<|QI I (λw F hF h9=>YX (ra:=c60.2) (rb:=⟨some ⟨b189,0,none⟩,1,1⟩) hF h9.1.1.1.1.1.1.1.1.1.1.1.1.1.1.1.1.1.1.1.1.1.1.1.1.1.1.1.1.2.2.qg (ZZ (l:=[([51,47,50],[50])]) h9.2) (h9.1.1.1.1.1.1.1.1.1.1.1.1.1.1.1.1.1.1.1.1.1.1.1.1.1.1.1.1.2.2.n1 wa) wb) (λ_=>QA (Qp I I I)<|wF I ?_)))
  refine wG<|QY ?_
  exact wL I I (rfl) wh
end Go.Proofs.YtjcphjpkimmmjaaGreatDoor
