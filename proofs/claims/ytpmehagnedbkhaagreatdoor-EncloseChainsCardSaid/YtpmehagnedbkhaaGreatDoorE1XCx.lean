/- Steps of the proof of the theorem in the last file. -/
import Derived.Test.YtpmehagnedbkhaaGreatDoorE0XCx
set_option linter.all false
set_option maxHeartbeats 4000000
open Go.Proofs.Tryz
open Rat renaming le_refl → aa,divInt → ae,le_trans → aq,mul_le_mul_of_nonneg_left → av,one_mul → aH,zero_mul → aJ,mul_le_mul_of_nonneg_right → aL,zero_add → aN,le_of_lt → aO,add_zero → aU,mul_nonneg → bc,mul_one → bC,le_antisymm → bF,pow_zero → bK,pow_succ → bL,mul_comm → ef
open Nat renaming beq → af,le_refl → ai,dvd_trans → ao,eq_of_beq_eq_true → aB,le_trans → aE,zero_add → aV,zero_le → bh,mul_pos → bj,strongRecOn → bG,dvd_of_mod_eq_zero → bM,lt_of_lt_of_le → bR,dvd_mul_right → bU,lt_or_ge → ei,le_of_lt → ek,one_dvd → eu
open List renaming not_mem_nil → ag,nil_append → ah,cons_append → aj,mem_cons → ak,length_cons → au,length_map → ax,getElem_of_mem → ay,range → aD,sublist_append_right → aF,map_cons → aG,length_range → aI,filterMap_cons → aM,length_erase_of_mem → aR,map_map → aS,getElem_replicate → aT,singleton_append → aX,getElem?_toArray → aY,mem_singleton → bm,length_append → bw,take_length → bB,append_nil → bD,replicate → bH,drop_of_length_le → bJ,perm_append_comm → bN,contains_eq_mem → bP,mem_map_of_mem → bQ,append_assoc → bS,all_eq_true → bV,map_append → bW,map_nil → bZ,length → ep
open Bool renaming and_eq_true → ar,not_eq_true' → aQ,or_eq_true → aW,or_eq_false_iff → aZ,not_eq_false' → bz,and_true → bY
open Int renaming toNat_natCast → aA,natAbs_natCast → bT
open Go.Value renaming bool → aC,int → aK,okWide → bX
open List.range renaming loop → aP
open Option renaming map_some → bA
open Option.some renaming inj → bI
open Prod renaming ext → bO
open Go.Lib renaming decDigits → ee
open Go.DataW renaming Trod → er
namespace Go.Proofs.YtpmehagnedbkhaaGreatDoor
variable{w:World}{F:Gs}{A K M a b c fr h t t2 u x:Rat}{y:ZR}{i k n:Nat}{s:List UInt8}{α:Type}{P Q R X Y Z:Jr}{V:List (List Jr)}{tb:List AT}
open Go.RowKit Ig
def QJc(s:List UInt8×List UInt8):Bool:=!(decide ((s.1.length:Int)>40)||decide ((s.2.length:Int)>40))
theorem dt{n:Nat}{r:Sr}{l:List (List UInt8×List UInt8)}(hF:Fits F w)(hx:KM F r l)(hc:H8 r l):Qe prog 29 [.int .i64 (n:Int),r.v] w F (.int .i64 (Ym n l)):=by
 have hl:=hx.len;have hn:=hc.n;refine QT.intro (G:=λF=>KM F r l) func29 rfl wy rfl rfl hF (λF' hF'=>hx.le hF')<|QKO<|wQ rfl<|QG<|wR rfl<|QA (Qg rfl XW)<|QJD rfl<|QA (QU rfl rfl rfl)<|QE<|QC ?_
 refine QO I (λhc2=>?_) λhc2=>?_
 ·have h8:=bne_iff_ne.1 hc2;refine wA 6 I ?_;exact QKx I I (congrArg (aK .i64) (by unfold Ym;rw[if_pos O])) w8
 have h8:=bne_eq_false_iff_eq.1 hc2;refine QKr 5 I<|QI I (λ_ _ f k=>jw f k.row ⟨hl,hc.t⟩ hn) λ_=>wQ I<|QW ?_
 exact QKx I I (congrArg (aK .i64) (by unfold Ym;rw[if_neg O])) w8
theorem cy{q:Option Addr}{n c:Nat}{m d:Int}{l:List (List UInt8)}(hF:Fits F w)(hR:Qw F q n 1 (l.map tx))(hl:l.length=n)(hd:0<=d/\d<=1000)(hn:n<=1000000):Qe prog 20 [.slice q n c,.int .i64 m,.int .i64 d] w F (.bool (decide ((n:Int)<=m)&&l.all λs=>Uy s d)):=by
 have hln:=hl;refine QT.intro (G:=λF=>Qw F q n 1 (l.map tx)) func20 rfl wy rfl rfl hF (λF' hF'=>hR.le hF')<|QKO<|wQ rfl<|QG<|wR rfl<|QA (Qg rfl Z6)<|QJD rfl<|QA (QU rfl rfl rfl)<|QE<|QC ?_
 refine QO I (λhc=>?_) λhc=>?_
 ·have hg:=QKc hc;refine wA 6 I ?_;exact QKx I I (congrArg aC (by have h1:decide ((n:Int)<=m)=false:=decide_eq_false O;rw[h1];rfl)) w8
 have hg:=QKd hc;refine QKr 9 I<|XM (ι:=Bj l λs=>Uy s d) [(0,_),(2,_)] (λi=>[(7,.int .i64 ((i.i:Nat):Int))]) (λi=>l.length-i.i) (Bj.start _ _) wT wS λi=>?_
 simp only[aj,ah];refine wA 5 I<|QA (Qg I Z6)<|QKq 3 I ?_
 refine QO I (λhc=>?_) λhc=>?_
 ·have hi:i.i<l.length:=wk<|QKc hc
  refine QKr 8 I<|QA (Q6 (n:=n) i.i w9 rfl rfl Z6 JR O)<|QA (JA (n:=n) ((i.i)*1) w9 O rfl JR (Xa (f:=tx) (l:=l) O))<|QJD I<|QI I (λ_ _ f k=>QF8 f hd) λ_=>QA (XJ I)<|QE<|QC ?_
  refine QO I (λhc=>?_) λhc=>?_
  ·refine wA 6 I ?_
   repeat first|refine Q4 ?_|refine Qy ?_
   exact QKx I I (congrArg aC (by rw[i.hit hi (by simpa using hc),Bool.and_false])) w8
  refine QN<|Qk<|QKs 3 I<|QA (Qv I I O)<|wB 2 I ?_
  exact Ql (i.next hi (by simpa using hc)) (by show l.length-(i.i+1)<l.length-i.i;omega) wU QJZ tA
 have hi:l.length<=i.i:=wk<|QKd hc
 refine Q2 ?_
 repeat first|refine QY ?_|refine QP wy ?_
 refine QZ<|QKs 7 I ?_
 exact QKx I I (congrArg aC (by rw[i.stop hi];have h1:decide ((n:Int)<=m)=true:=decide_eq_true O;rw[h1];rfl)) w8
structure QKY(y:ZR):Prop where
 nn:y.nm.n<=9223372036854775807
 nc:y.nm.n<=y.nm.cap
 nt:∀s∈y.nl,s.length<=9223372036854775807
 rn:y.rt.n<=9223372036854775807
 sn:y.st.n<=9223372036854775807
 rl:∀e∈y.rl,e.2.length=e.1.n/\e.1.n<=9223372036854775807/\∀t∈e.2,t.k.length=t.r.n
def shT(t:MG):Bool:=!(decide ((t.r.n:Int)>30)||decide ((t.f.length:Int)>30))
def shP(e:AX):Bool:=!(decide ((e.1.n:Int)>70))&&e.2.all shT
def shN(y:ZR):Bool:=decide ((y.nm.n:Int)>30)||decide ((y.rt.n:Int)>30)||decide ((y.st.n:Int)>30)
def shS(y:ZR):Bool:=!(shN y)&&(y.rl.all shP&&y.sl.all QJc)
def QHo(y:ZR)(v g:Int):Bool:=!(!(shS y)||(y.e != 0)||decide ((y.rt.n:Int)>v)||(!(decide ((y.st.n:Int)<=v)&&y.sl.all (QGP g))&&decide ((y.st.n:Int)>0)))
def QJw(y:ZR)(v d g:Int):Bool:=QHo y v g&&y.rl.all λe=>fpB (YQ e.2) (y.rt.n:Int) 4 d g
def QJx{v g:Int}(h:QHo y v g=true):shS y=true/\y.e=0/\(y.rt.n:Int)<=v/\(y.st.n=0\/((y.st.n:Int)<=v/\∀s∈y.sl,QGP g s=true)):=by
 unfold QHo at h;simp only[aQ,aZ,bz,bne_eq_false_iff_eq,decide_eq_false_iff_not]at h;obtain⟨⟨⟨h1,h2⟩,h3⟩,h4⟩:=h;refine⟨by simpa using h1,h2,O,?_⟩;by_cases g:y.st.n=0
 ·exact .inl g
 right;have:decide ((y.st.n:Int)>0)=true:=decide_eq_true O;rw[this,bY]at h4;simp only[bz,ar,decide_eq_true_eq,bV]at h4;exact h4
def dW{nl:List (List UInt8)}{rl:List Pt}{sl:List (List UInt8×List UInt8)}(h1:nl.length≠0)(h2:¬nl.length>24)(h3:rl.length=nl.length/\sl.length=nl.length):DF nl rl sl=Qp [Dt nl,Qp (rl.map λp=>Zp p nl.length),Qp (sl.map λs=>Xc s.1 s.2)]:=by
 unfold DF;rw[if_neg h1,if_neg h2,if_neg O]
theorem QHJ{q:Option Addr}{c:Nat}{l:List (List UInt8)}{v:List UInt8}(hF:Fits F w)(hR:Qw F q n 1 (l.map tx))(hn:l.length=n)(hb:n<=1000000000):Qe prog 197 [.slice q n c,tx v] w F (.bool (decide (v∈l))):=by
 refine QT.intro (G:=λF=>Qw F q n 1 (l.map tx)) func197 rfl wy rfl rfl hF (λF' hF'=>hR.le hF')<|QKO<|wQ rfl<|QG<|QKO<|wQ rfl<|QV<|XM (ι:=NoI l v) [(0,_),(1,_)] (λi=>[(5,.int .i64 ((i.i:Nat):Int))]) (λi=>l.length-i.i) (⟨0,bh _,λj h=>absurd h (Nat.not_lt_zero _)⟩) wT wS λi=>?_
 simp only[aj,ah];have hi:=i.le;refine wA 5 I<|QA (Qg I Kx)<|QKq 3 I ?_
 refine QO I (λhc2=>?_) λhc2=>?_
 ·have hlt:i.i<l.length:=wk<|QKc hc2
  have hem:=Q3 hlt;refine QKr 8 I<|QA (Q6 (n:=n) i.i w9 rfl rfl Kx Dk O)<|QA (JA (n:=n) ((i.i)*1) w9 O rfl Dk (Xa (f:=tx) (l:=l) O))<|QJD I<|QA (VD I I)<|QE<|QC ?_
  refine QO I (λhc2=>?_) λhc2=>?_
  ·have h17:el l i.i=v:=eq_of_beq hc2;refine wA 6 I ?_
   repeat first|refine Q4 ?_|refine Qy ?_
   exact QKx I I (congrArg aC (decide_eq_true (by rw[<-h17];exact hem))) w8
  have h17:¬el l i.i=v:=by simpa using hc2
  refine QN<|Qk<|QKs 3 I<|QA (Qv I I O)<|wB 2 I ?_
  exact Ql (⟨i.i+1,hlt,λj hj=>by rcases Nat.lt_succ_iff_lt_or_eq.1 hj with h | rfl;exact i.h j h;exact h17⟩) (by show l.length-(i.i+1)<l.length-i.i;omega) wU QJZ w9
 have hge:l.length<=i.i:=wk<|QKd hc2
 refine Q2 ?_
 repeat first|refine QY ?_|refine QP wy ?_
 refine QZ<|QKs 7 I ?_
 exact QKx I I (congrArg aC (decide_eq_false (i.stop hge))) w8
theorem QHN{q:Option Addr}{c:Nat}{l:List (List UInt8)}{v:List UInt8}(hF:Fits F w)(hR:Qw F q n 1 (l.map tx))(hn:l.length=n)(hb:n<=1000000000):Qe prog 88 [.slice q n c,tx v] w F (.bool (decide (v∈l))):=by
 refine QT.intro (G:=λF=>Qw F q n 1 (l.map tx)) func88 rfl wy rfl rfl hF (λF' hF'=>hR.le hF')<|QKO<|wQ rfl<|wR rfl<|QJD rfl<|QI rfl (λ_ _ f k=>QHJ f k hn hb) λ_=>wQ rfl<|QW ?_
 exact QKx I I (rfl) w8
theorem QHF(hF:Fits F w)(hGl:JC F)(hy:ZZ F y)(ht:HM y):Qe prog 23 [y.v] w F (.int .i64 y.e):=by
 obtain⟨⟨qn,nn,cn⟩,nl,⟨qr,nr,cr⟩,rl,⟨qs,ns,cs⟩,sl⟩:=y;have hnl:=hy.gI;have hrl:=hy.VI;have hsl:=hy.Sb;have hnn:=ht.nn;have hrn:=ht.rn;have hsn:=ht.sn;dsimp only at *
 dsimp only[ZR.v];refine QT.intro (G:=λF=>JC F/\ZZ F ⟨⟨qn,nn,cn⟩,nl,⟨qr,nr,cr⟩,rl,⟨qs,ns,cs⟩,sl⟩) func23 rfl wy rfl rfl hF (λF' hF'=>⟨hGl.le hF',hy.le hF'⟩)<|QKO<|Qu rfl (vs:=[_,_,_]) rfl λb1=>wQ rfl<|QKO<|QA (QH rfl BX Vq)<|QA (Qf rfl Vq .here .h1)<|QA (Qg rfl Kx)<|wQ rfl<|QG<|wR rfl<|QA (QU rfl rfl rfl)<|QE<|QC ?_
 refine QO I (λhc2=>?_) λhc2=>?_
 ·have h11:nl.length=0:=by have:(nn:Int)=0:=eq_of_beq hc2;omega
  refine wA 6 I ?_;exact QKx I I (congrArg (aK .i64) (by show DF nl (rl.map λe=>YQ e.2) sl=12;unfold DF;rw[if_pos h11])) w8
 have h11:nl.length≠0:=by have:¬(nn:Int)=0:=(by simpa using hc2);omega
 refine QKr 9 I ?_;refine QO I (λhc2=>?_) λhc2=>?_
 ·have h13:nl.length>24:=wk<|QKc hc2
  refine wA 6 I ?_;exact QKx I I (congrArg (aK .i64) (by show DF nl (rl.map λe=>YQ e.2) sl=5;unfold DF;rw[if_neg h11,if_pos h13])) w8
 have h13:¬nl.length>24:=wk<|QKd hc2
 refine QKr 3 I ?_;refine YS [(1,_),(3,_)] [(25,.bool (((nr:Int) != nn||(ns:Int) != nn)))] wT ?_ ?_
 ·refine QB<|QA (QH I Rr DP)<|QA (Qf I DP .here (.skip .h1))<|QA (Qg I DC)<|wB 3 I ?_
  refine Qs (t:=19) rfl (λhb19=>?_) λhb19=>?_
  ·refine wB 7 I ?_;exact Jg ⟨rfl,rfl,(congrArg (λb=>some (aC b)) (by rw[hb19];rfl)),trivial⟩ QJZ w9
  refine QL I I<|QA (QH I Yx J4)<|QL I I<|QA (Qf I J4 .here (.skip (.skip .h1)))<|QL I I<|QA (Qg I XW)<|wB 6 I ?_
  exact Jg ⟨rfl,rfl,(congrArg (λb=>some (aC b)) (by rw[hb19];rfl)),trivial⟩ QJZ w9
 simp only[aj,ah];refine QO I (λhc2=>?_) λhc2=>?_
 ·have h25:(rl.map λe=>YQ e.2).length≠nl.length\/sl.length≠nl.length:=by simp only[aW,bne_iff_ne]at hc2;rw[ax];omega
  refine wA 6 I ?_;exact QKx I I (congrArg (aK .i64) (by show DF nl (rl.map λe=>YQ e.2) sl=2;unfold DF;rw[if_neg h11,if_neg h13,if_pos h25])) w8
 have h25:(rl.map λe=>YQ e.2).length=nl.length/\sl.length=nl.length:=by simp only[aZ,bne_eq_false_iff_eq]at hc2;rw[ax];omega
 have h25r:rl.length=nl.length:=by rw[<-h25.1,ax]
 refine QKr 9 I<|XM (ι:=ZK (aD nl.length) (EV nl)) [(1,_),(3,_)] (λi=>[(4,.int .i64 ((i.i:Nat):Int))]) (λi=>nl.length-i.i) (ZK.start _ _) wT wS λi=>?_
 simp only[aj,ah];have hi:=i.le;rw[aI]at hi;refine wA 8 I ?_;refine QO I (λhc2=>?_) λhc2=>?_
 ·have hlt:i.i<nl.length:=wk<|QKc hc2
  have hem:=Q3 hlt;refine QKr 7 I<|QA (QH I BX Vq)<|QA (Qf I Vq .here .h1)<|QJD I<|QA (Q6 (n:=nn) i.i (λF h9=>h9.2.nm) rfl rfl Kx Dk O)<|QA (JA (n:=nn) ((i.i)*1) (λF h9=>h9.2.nm) O rfl Dk (Xa (f:=tx) (l:=nl) O))<|QI I (λ_ _ f k=>QEX f (ht.nt _ hem)) λ_=>QA (XJ I)<|QE<|QC ?_
  refine QO I (λhc2=>?_) λhc2=>?_
  ·have h37:(!nmS (el nl i.i))=true:=hc2;have hnE:EV nl i.i≠0:=by unfold EV;rw[if_pos h37,Zg wu];decide
   refine wA 6 I ?_
   repeat first|refine Q4 ?_|refine Qy ?_
   exact QKx I I (congrArg (aK .i64) (by show DF nl (rl.map λe=>YQ e.2) sl=8;rw[dW h11 h13 h25];have h9:=i.hit (by rw[aI];exact hlt) (by rw[ZG hlt];exact hnE);rw[ZG hlt]at h9;rw[show Dt nl=EV nl i.i from h9,Zg hnE];unfold EV;rw[if_pos h37,Zg wu])) w8
  have h37:(!nmS (el nl i.i))=false:=hc2;refine QKr 3 I<|JK QJZ mixed wm<|QK (QH I BX Vq)<|QK (Qf I Vq .here .h1)<|QK (QD I)<|QK (Nh i.i I I I Kx Dk (by have:=ht.nc;dsimp only at this;omega))<|QK (QH I BX Vq)<|QK (Qf I Vq .here .h1)<|QK (QD I)<|QK (Q6 (n:=nn) i.i (λF h9=>h9.1.2.nm) rfl rfl Kx Dk O)<|QK (JA (n:=nn) ((i.i)*1) (λF h9=>h9.1.2.nm) O rfl Dk (Xa (f:=tx) (l:=nl) O))<|QM I (λ_ _ f k=>QHN f (Qw.QCt (l:=nl) k.1.2.nm hnl hi) (by rw[List.length_take];omega) O) λ_=>Q5<|QC ?_
  refine QO I (λhc2=>?_) λhc2=>?_
  ·have h47:decide (el nl i.i∈nl.take i.i)=true:=hc2;have hnE:EV nl i.i≠0:=by unfold EV;rw[if_neg (by rw[h37];decide),if_pos h47,ZS,Zg wu];decide
   refine wA 6 I ?_
   repeat first|refine Q4 ?_|refine Qy ?_
   exact QKx I I (congrArg (aK .i64) (by show DF nl (rl.map λe=>YQ e.2) sl=9;rw[dW h11 h13 h25];have h9:=i.hit (by rw[aI];exact hlt) (by rw[ZG hlt];exact hnE);rw[ZG hlt]at h9;rw[show Dt nl=EV nl i.i from h9,Zg hnE];unfold EV;rw[if_neg (by rw[h37];decide),if_pos h47,ZS,Zg wu])) w8
  have h47:decide (el nl i.i∈nl.take i.i)=false:=hc2;refine QN<|Qk<|QKs 3 I<|QA (Qv I I O)<|wB 2 I ?_
  exact Ql (i.next (by rw[aI];exact hlt) (by rw[ZG hlt];unfold EV;rw[if_neg (by rw[h37];decide),if_neg (by rw[h47];decide)];rfl)) (by show nl.length-(i.i+1)<nl.length-i.i;omega) wU QJZ λF h=>h.1.1
 have hge:nl.length<=i.i:=wk<|QKd hc2
 have hnz:Dt nl=0:=i.stop (by rw[aI];exact hge);refine Q2 ?_
 repeat first|refine QY ?_|refine QP wy ?_
 refine QZ<|QKs 8 I<|XM (ι:=ZK rl λe=>Zp (YQ e.2) (nn:Int)) [(1,_),(3,_)] (λi2=>[(5,.int .i64 ((i2.i:Nat):Int))]) (λi2=>rl.length-i2.i) (ZK.start _ _) wT wS λi2=>?_
 simp only[aj,ah];have hi2:=i2.le;refine wA 8 I ?_;refine QO I (λhc2=>?_) λhc2=>?_
 ·have hlt2:i2.i<rl.length:=wk<|QKc hc2
  have hem:=Q3 hlt2;refine QKr 6 I<|QA (QH I Rr DP)<|QA (Qf I DP .here (.skip .h1))<|QJD I<|QA (Q6 (n:=nr) (i2.i) (λF h9=>h9.2.rt) rfl rfl DC D4 O)<|QA (JA (n:=nr) ((i2.i)*1) (λF h9=>h9.2.rt) O rfl D4 (Xa (f:=λe:AX=>e.1.v) (l:=rl) O))<|QJD I<|QI I (λ_ _ f k=>gH (q:=(el rl i2.i).1.q) (n:=(el rl i2.i).1.n) (cap:=(el rl i2.i).1.cap) f k.1 (k.2.pl _ hem).1 (k.2.pl _ hem).2 (ht.tm _ hem).1 (λt htt=>wk<|(ht.tm _ hem).2.1 t htt) (wk<|(ht.tm _ hem).2.2) O) λ_=>QKq 9 I ?_
  refine QO I (λhc2=>?_) λhc2=>?_
  ·have h61:=bne_iff_ne.1 hc2;refine wA 7 I ?_
   repeat first|refine Q4 ?_|refine Qy ?_
   exact QKx I I (congrArg (aK .i64) (by show DF nl (rl.map λe=>YQ e.2) sl=_;rw[dW h11 h13 h25,hnz,ZS,aS,hnl];have h9:=i2.hit hlt2 h61;rw[show Qp (rl.map ((λp=>Zp p (nn:Int))∘λe=>YQ e.2))=Zp (YQ (el rl i2.i).2) (nn:Int)from h9,Zg h61])) w8
  have h61:=bne_eq_false_iff_eq.1 hc2;refine QN<|Qk<|QKs 3 I<|QA (Qv I I O)<|wB 2 I ?_
  exact Ql (i2.next hlt2 h61) (by show rl.length-(i2.i+1)<rl.length-i2.i;omega) wU QJZ tA
 have hge2:rl.length<=i2.i:=wk<|QKd hc2
 refine Q2 ?_
 repeat first|refine QY ?_|refine QP wy ?_
 refine QZ<|QC<|QKO<|QA (QH I Yx J4)<|QA (Qf I J4 .here (.skip (.skip .h1)))<|QI I (λ_ _ f k=>jw f k.2.st ⟨hsl,ht.st⟩ hsn) λ_=>wQ I<|QW ?_
 exact QKx I I (congrArg (aK .i64) (by show DF nl (rl.map λe=>YQ e.2) sl=_;rw[dW h11 h13 h25,hnz,ZS,aS,hnl];have h9:=i2.stop hge2;rw[show Qp (rl.map ((λp=>Zp p (nn:Int))∘λe=>YQ e.2))=0 from h9,ZS,kV])) w8
def grL(a:Rat)(m:Nat):List Rat:=(aD m).map λk=>a*(((k+1:Nat):Int):Rat)/(((m:Nat):Int):Rat)
def uR(a:Rat)(m:Nat):(grL a m).length=m:=by simp[grL]
def QE1{m:Nat}(h:k<m):el (grL a m) k=a*(((k+1:Nat):Int):Rat)/(((m:Nat):Int):Rat):=by unfold grL;rw[YP _ h]
def gB(sg n:Int):Bool:=decide (sg<=0)||(decide (n<1)||decide (n>1000))
def grE(s:List UInt8)(n:Int):Int:=if Jd s≠0 then Jd s else if gB (D8 (Qh s).num) n=true then 3 else 0
def xK{k:Nat}(h:k<=1000):JQ (((k:Nat):Int):Rat)<=12:=by
 have h1:=GF ((k:Nat):Int);have h2:sz ((k:Nat):Int)<=11:=(XE _ 11).2 (by rw[bT];omega);omega
def QHC(r s:Rat)(h:s.num≠0):JQ (r/s)<=JQ r+JQ s:=by
 rw[Rat.div_def];exact aE (Xp _ _) (Nat.add_le_add_left (Mv h) _)
theorem QHk{m z:Nat}(hm:m<=1000)(ha:JQ a<=z):∀x∈grL a m,JQ x<=z+24:=λx hx=>by
 obtain⟨k,hk,rfl⟩:=ay hx;rw[uR]at hk;rw[<-Ja (by rw[uR];exact hk),QE1 hk];have h1:=xK (k:=k+1) O;have h2:=xK hm;have h3:=QHC (a*(((k+1:Nat):Int):Rat)) (((m:Nat):Int):Rat) (by show((m:Nat):Int)≠0;omega);have h4:=Xp a (((k+1:Nat):Int):Rat);omega
theorem QGJ{n:Int}(hF:Fits F w)(hGl:JC F)(hs:s.length<=1000000):QT prog 24 [tx s,.int .i64 n] w F (λ(c:Sr)=>.tuple #[c.v,.int .i64 (cN (grE s n) (grL (Qh s) n.toNat)).1]) (λc F=>dH F c (cN (grE s n) (grL (Qh s) n.toNat)).2):=by
 refine QT.intro (G:=λF=>JC F) func24 rfl wy rfl rfl hF (λF' hF'=>hGl.le hF')<|QKO<|QJE rfl<|wQ rfl<|QG<|wR rfl<|QI rfl (λ_ _ f k=>B5 f k O) λ_=>wQ rfl<|wR rfl<|QA (QU rfl rfl rfl)<|QE<|QC ?_
 refine QO I (λhc2=>?_) λhc2=>?_
 ·have h13:=bne_iff_ne.1 hc2;have hge0:grE s n=Jd s:=by unfold grE;rw[if_pos h13]
  refine wA 8 I ?_;exact JY ((⟨none,0,0⟩:Sr)) I (wO I I) (by rw[hge0,CV h13]) λF h9=>by rw[hge0,CV h13];exact dH.nil F
 have h13:=bne_eq_false_iff_eq.1 hc2;have zs:=YM h13;refine QKr 5 I<|QI I (λ_ _ f k=>Yw (r:=Qh s) f k.1 (XI h13).1 O) λc16=>Qc XZ λb7=>QR (vs:=[_,_,_,_]) I I I Qa I .here .h4 wV<|QJC<|QG ?_
 refine YS [(1,_),(7,_)] [(27,.bool ((gB (D8 (Qh s).num) n)))] wT ?_ ?_
 ·refine QB<|QA (wJ I Qa .here)<|QI I (λ_ _ f k=>My f k.2) λ_=>wB 2 I ?_
  refine Qs (t:=20) rfl (λhb20=>?_) λhb20=>?_
  ·refine wB 8 I ?_;exact Jg ⟨rfl,rfl,(congrArg (λb=>some (aC b)) (by unfold gB;rw[hb20];rfl)),trivial⟩ QJZ tA
  refine wB 6 I ?_;refine Qs (t:=24) rfl (λhb24=>?_) λhb24=>?_
  ·refine wB 4 I ?_;exact Jg ⟨rfl,rfl,(congrArg (λb=>some (aC b)) (by unfold gB;rw[hb20,hb24];rfl)),trivial⟩ QJZ tA
  refine wB 6 I ?_;exact Jg ⟨rfl,rfl,(congrArg (λb=>some (aC b)) (by unfold gB;rw[hb20,hb24];rfl)),trivial⟩ QJZ tA
 simp only[aj,ah];refine QO I (λhc2=>?_) λhc2=>?_
 ·have hge0:grE s n=3:=by unfold grE;rw[if_neg (by simpa using h13),if_pos hc2]
  refine wA 7 I ?_;exact JY ((⟨none,0,0⟩:Sr)) I (wO I I) (by rw[hge0,CV wu]) λF h9=>by rw[hge0,CV wu];exact dH.nil F
 have hge0:grE s n=0:=by unfold grE;rw[if_neg (by simpa using h13),if_neg (by rw[hc2];decide)]
 have hnn:1<=n/\n<=1000:=by unfold gB at hc2;simp only[aZ,decide_eq_false_iff_not]at hc2;omega
 obtain⟨m,rfl⟩:∃m:Nat,n=(m:Int):=⟨n.toNat,O⟩;have hzl:=QHk (m:=m) O zs;have hgl:=uR (Qh s) m;refine QKr 4 I<|wQ rfl<|QG<|wR rfl<|QJD rfl<|QJC<|QV<|JW (ι:=SdJ (grL (Qh s) m)) [(1,_),(7,_),(28,_)] (λi=>[(8,i.v),(29,.int .i64 ((i.i:Nat):Int))]) (λi=>(b7,.cells (KV c16).toArray 95 (0,0))::i.ob) (λi F=>Ny F i.xs) (λi=>m-i.i) (⟨0,.slice none 0 0,[],[],bh _,.nil,rfl⟩) wU wT QJZ (λ_ _ p h=>by cases h) λi=>?_
 simp only[aj,ah];have hi:=i.le;refine wA 6 I ?_;refine QO I (λhc2=>?_) λhc2=>?_
 ·have hlt:i.i<m:=wk<|QKc hc2
  have hz36:=xK (k:=i.i+1) O;have hzm:=xK (k:=m) O;have hz37:=Xp (Qh s) (((i.i+1:Nat):Int):Rat);refine QKr 10 I<|JK tE mixed wm<|QK (QD I)<|QK (wJ I Qa .here)<|QK (QD I)<|QK (Qv I I O) ?_
  rw[show(((i.i:Nat):Int)+1)=((i.i+1:Nat):Int)from rfl];refine QM I (λ_ _ f k=>Sk (n:=((i.i+1:Nat):Int)) f O O) (λc36=>QM I (λ_ _ f k=>Wl (x:=c16) (y:=c36) (r:=Qh s) (s:=(((i.i+1:Nat):Int):Rat)) f k.1.1.2 k.2 O O) λc37=>QK (QD I)<|QM I (λ_ _ f k=>Sk (n:=(m:Int)) f O O) λc39=>QM I (λ_ _ f k=>jI (x:=c37) (y:=c39) (r:=Qh s*(((i.i+1:Nat):Int):Rat)) (s:=((m:Int):Rat)) f k.1.2 k.2 (by show((m:Nat):Int)≠0;omega) O O) λc40=>?_);refine Qo I (Qz XT) Qa XZ I I (λb41=>?_) (λw h=>h.imp tE λF h=>h.1.1.1.1);refine Yi (bN (l₁:=[_])) ?_;refine Yt (n:=i.i) (k:=1) (sz:=4) (news:=(KV c40)) I I XT Qa XZ I QDJ i.hr (Src.row (off:=0) tB (λj q hq=>by rw[aV];rw[aY];exact hq) rfl) O O (xM _) QJZ (λ_ h=>h.1.1.1.1.1) (λv42 ob42 hr42=>?_);refine Yi (bN (l₂:=[_]))<|QK (QF I)<|Q5<|Qk<|QC<|QB<|QA (Qv I I O)<|wB 2 I ?_
  exact Ql (i.next O c40 _ hr42 (QE1 hlt).symm) (by show m-(i.i+1)<m-i.i;omega) wW QJZ λF h9=>⟨⟨⟨h9.1.1.1.1.1.1.1.1,trivial⟩,h9.1.1.1.1.1.1.2⟩,h9.1.1.1.1.1.2.snoc h9.1.2⟩
 have hge:i.i=(grL (Qh s) m).length:=by have:=QKd hc2;have:=i.le;omega
 have hzx:∀p∈i.xs,JQ p.2<=100000000:=λp hp=>aE (hzl _ (by have e:=i.hx;rw[hge,bB]at e;rw[<-e];exact bQ hp)) wu;have hxe:i.xs.map (·.2)=(grL (Qh s) m):=by have e:=i.hx;rw[hge,bB]at e;exact e
 have hxl2:=i.len;have hany:=xT hxe;refine Q2 ?_
 repeat first|refine QY ?_|refine QP wy ?_
 refine QZ<|QKs 4 I ?_
 have hxl:=i.len;obtain⟨⟨rq,rn,rc⟩,hv2,hrn,hrc,hfix⟩:=Q7.fix (w0:=w) (F0:=F) (bs1:=[_]) (G:=_) i.hr;dsimp only at hrn hrc hfix;subst hrn;refine YB hfix ?_;rw[hv2];dsimp only[Sr.v];refine QJD I<|QI I (λw F g k=>Cy (f:=96) (c1:=[]) (c2:=[]) (p:=λe:Fr×Rat=>Jo e.2) (G0:=λF=>JC F/\Ny F i.xs) g (λF F' hle h=>⟨h.1.le hle,h.2.le hle⟩) ⟨k.1.1.1.1,k.1.2⟩ k.2 hxl2 O λe he w F g hG=>Db g hG.1 (hG.2 e he) (hzx e he)) λ_=>QE<|QC ?_
 refine QO I (λhc2=>?_) λhc2=>?_
 ·have hL:(grL (Qh s) m).any Jo=true:=by rw[<-hany];exact hc2
  refine wA 7 I ?_;exact JY ((⟨none,0,0⟩:Sr)) I (wO I I) (by rw[hge0,aA,TQ,if_pos hL]) λF h9=>by rw[hge0,aA,TQ,if_pos hL,if_pos hL];exact dH.nil F
 have hL:(grL (Qh s) m).any Jo=false:=by rw[<-hany];exact hc2
 refine QKr 5 I<|QI I (λ_ _ f k=>Ub f k.1.1.1.1.1 k.1.2 k.1.1.2 hxl2 O hzx) λc47=>QKq 5 I ?_
 exact JY (c47) rfl (wO I I) (by rw[hge0,aA,TQ,hL]<;>rfl) λF h9=>by rw[hge0,aA,TQ,hL];show dH F c47 (grL (Qh s) m);exact⟨by rw[<-dj hxe];exact h9.2.1,by rw[h9.2.2.1];exact hge,h9.2.2.2⟩
structure ATk where
 fr:List UInt8
 te:List UInt8
 bx:Sr
 bl:List (List UInt8×List UInt8)
 wh:Sr
 wl:List (List UInt8×List UInt8)
 o:Int
 b:Int
section
open Go.RowKit Go.ChangeShapes Go.WideShapes Ig
def QH9{cs:Array α}(h:cs.size=5):∃a b c d e,cs=#[a,b,c,d,e]:=by
 obtain⟨l⟩:=cs
 match l,h with
 |[a,b,c,d,e],_=>exact⟨a,b,c,d,e,rfl⟩
section
variable{H:Type}{enc:TypeId×Value->H}{w:World}
set_option maxRecDepth 100000 in
theorem QGB{b:Nat}{v:Value}{d:DataW H}{p:List MemPlace}(hv:bX prog w .any b 50 v)(h:er enc prog w 0 (λ_=>true) true 50 v d p):
  ∃l0 l1 l2 l3 l4,v = .agg #[tx l0,tx l1,tx l2,tx l3,tx l4]:=by
 obtain⟨cs,rfl,hsz⟩:=QAM underlying50 hv;obtain⟨a,b',c,d',e,rfl⟩:=QH9 (hsz.trans wm);obtain⟨fuel,hf⟩:=h;have c1:prog.cellsOf 41=1:=wm;obtain⟨m0,y0,e0⟩:=vO (i:=0) underlying50 hf wu;obtain⟨m1,y1,e1⟩:=vO (i:=1) underlying50 hf wu;obtain⟨m2,y2,e2⟩:=vO (i:=2) underlying50 hf wu;obtain⟨m3,y3,e3⟩:=vO (i:=3) underlying50 hf wu;obtain⟨m4,y4,e4⟩:=vO (i:=4) underlying50 hf wu;rw[c1]at e0 e1 e2 e3 e4;obtain⟨s0,rfl⟩:=Ax js (v:=a) e0;obtain⟨s1,rfl⟩:=Ax js (v:=b') e1;obtain⟨s2,rfl⟩:=Ax js (v:=c) e2;obtain⟨s3,rfl⟩:=Ax js (v:=d') e3;obtain⟨s4,rfl⟩:=Ax js (v:=e) e4;exact⟨s0,s1,s2,s3,s4,rfl⟩
set_option maxRecDepth 100000 in
theorem QC7{t:TypeId}(ht:prog.underlying t=some (.int .u8)){b:Nat}{v:Value}{d:DataW H}{p:List MemPlace}(hv:bX prog w .any b t v)(h:er enc prog w 0 (λ_=>true) true t v d p):∃k:Nat,v = .int .u8 (k:Int)/\k<256:=by
 obtain⟨z,rfl,_,_,hw⟩:=open_int ht hv h;have hn:0<=z/\z<=255:=by simpa[Lit.wf,IntKind.min,IntKind.max,IntKind.signed,IntKind.bits]using hw
 exact⟨z.toNat,by rw[Int.toNat_of_nonneg hn.1],O⟩
end
end
def xO(a b:Rat):List Tm:=(if b=0 then[]else[(b,[1,0,0,0])])++(if a=0 then[]else[(a,[0,0,0,0])])
def T9(a b:Rat):List (List Tm):=[xO a b,[(1,[0,1,0,0])],[(1,[0,0,1,0])]]
theorem QE9(a b s x y z:Rat):kX [s,x,y,z] (xO a b)=a+b*s:=by
 unfold xO;by_cases hb:b=0<;>by_cases ha:a=0<;>simp[hb,ha,kX,dM,el,Qm,aD,aP]<;>grind
theorem QE8(s x y z:Rat):kX [s,x,y,z] [(1,[0,1,0,0])]=x:=by
 simp[kX,dM,el,Qm,aD,aP]<;>grind
theorem QE7(s x y z:Rat):kX [s,x,y,z] [(1,[0,0,1,0])]=y:=by
 simp[kX,dM,el,Qm,aD,aP]<;>grind
def C0(a b:Rat):∀t∈xO a b,t.2.length=4/\∀k∈t.2,0<=k:=by
 intro t ht;unfold xO at ht;rw[List.mem_append]at ht;rcases ht with ht | ht<;>(split at ht<;>simp at ht;subst ht;exact⟨rfl,wz⟩)
def QHE{s y z:Rat}{S:Jr}(h1:ZW s S)(h2:ZW x X)(h3:ZW y Y)(h4:ZW z Z):∀i,i<[S,X,Y,Z].length->ZW (el [s,x,y,z] i) (el [S,X,Y,Z] i):=by
 intro i hi;have:i=0\/i=1\/i=2\/i=3:=by simp at hi;omega
 rcases this with rfl | rfl | rfl | rfl<;>assumption
theorem QGt(hP:P.1<=P.2)(hQ:Q.1<=Q.2)(hR:R.1<=R.2)(hg:T8 (Zt (T9 a b) fr t2 [X,Y,Z] [P,Q,R]) [P,Q,R]=true):
  (∀x s u,ZW x X->0<=s->s<=t2-fr->ZW u (fr,t2)->ZW (x+s*(a+b*u)) P) /\
  (fr<=t2->(∀y s p,ZW y Y->0<=s->s<=t2-fr->ZW p P->ZW (y+s*p) Q)/\(∀z s q,ZW z Z->0<=s->s<=t2-fr->ZW q Q->ZW (z+s*q) R)):=by
 rw[Ed]at hg;have g0:=hg 0 (by simp[Zt]);have g1:=hg 1 (by simp[Zt]);have g2:=hg 2 (by simp[Zt]);have e0:el (Zt (T9 a b) fr t2 [X,Y,Z] [P,Q,R]) 0=Z0 X (JE (0,t2-fr) (J5 [(fr,t2),P,Q,R] (xO a b))):=rfl;have e1:el (Zt (T9 a b) fr t2 [X,Y,Z] [P,Q,R]) 1=Z0 Y (JE (0,t2-fr) (J5 [(fr,t2),P,Q,R] [(1,[0,1,0,0])])):=rfl;have e2:el (Zt (T9 a b) fr t2 [X,Y,Z] [P,Q,R]) 2=Z0 Z (JE (0,t2-fr) (J5 [(fr,t2),P,Q,R] [(1,[0,0,1,0])])):=rfl;rw[e0]at g0;rw[e1]at g1;rw[e2]at g2;have p0:ZW P.1 P:=⟨aa,hP⟩;have q0:ZW Q.1 Q:=⟨aa,hQ⟩;have r0:ZW R.1 R:=⟨aa,hR⟩;refine⟨λx s u hx h0 hs hu=>?_,λht=>⟨λy s p hy h0 hs hp=>?_,λz s q hz h0 hs hq=>?_⟩⟩
 ·have hm:=jK (rs:=[(fr,t2),P,Q,R]) (l:=xO a b) (λt ht=>⟨by rw[(C0 a b t ht).1];exact ai _,(C0 a b t ht).2⟩) (QHE hu p0 q0 r0);rw[QE9]at hm;have:=AH hx (Z2 (show ZW s (0,t2-fr)from⟨h0,hs⟩) hm);exact⟨aq g0.1 this.1,aq this.2 g0.2⟩
 ·have hm:=jK (rs:=[(fr,t2),P,Q,R]) (l:=[(1,[0,1,0,0])]) wz (QHE (show ZW fr (fr,t2)from⟨aa,ht⟩) hp q0 r0);rw[QE8]at hm;have:=AH hy (Z2 (show ZW s (0,t2-fr)from⟨h0,hs⟩) hm);exact⟨aq g1.1 this.1,aq this.2 g1.2⟩
 have hm:=jK (rs:=[(fr,t2),P,Q,R]) (l:=[(1,[0,0,1,0])]) wz (QHE (show ZW fr (fr,t2)from⟨aa,ht⟩) p0 hq r0);rw[QE7]at hm;have:=AH hz (Z2 (show ZW s (0,t2-fr)from⟨h0,hs⟩) hm);exact⟨aq g2.1 this.1,aq this.2 g2.2⟩
def chX(a b t x s:Rat):Rat:=x+s*(a+b*(t+s*ae 1 2))
def chY(a b t x y s:Rat):Rat:=y+s*(x+s*ae 1 2*(a+b*(t+s*ae 1 3)))
def chZ(a b t x y z s:Rat):Rat:=z+s*(y+s*ae 1 2*(x+s*ae 1 3*(a+b*(t+s*ae 1 4))))
def Ch{s:Rat}{n:Int}(hn:n=2\/n=3\/n=4)(h0:0<=s)(hs:s<=h):0<=s*ae 1 n/\s*ae 1 n<=s:=by
 have e:0<=ae 1 n/\ae 1 n<=1:=by rcases hn with rfl | rfl | rfl<;>decide +kernel
 exact⟨bc h0 e.1,by have:=av e.2 h0;rwa [bC]at this⟩
theorem QGY{x0 y0 z0:Rat}(ht:fr<=t2)(hP:P.1<=P.2)(hQ:Q.1<=Q.2)(hR:R.1<=R.2)(hg:T8 (Zt (T9 a b) fr t2 [X,Y,Z] [P,Q,R]) [P,Q,R]=true)
  (hx:ZW x0 X) (hy:ZW y0 Y) (hz:ZW z0 Z) {s:Rat} (h0:0<=s) (hs:s<=t2-fr):ZW (chX a b fr x0 s) P/\ZW (chY a b fr x0 y0 s) Q/\ZW (chZ a b fr x0 y0 z0 s) R:=by
 obtain⟨i1,i2⟩:=QGt hP hQ hR hg;obtain⟨i2,i3⟩:=i2 ht;have f2:=Ch (n:=2) (.inl rfl) h0 hs;have f3:=Ch (n:=3) (.inr (.inl rfl)) h0 hs;have f4:=Ch (n:=4) (.inr (.inr rfl)) h0 hs;refine⟨i1 x0 s _ hx h0 hs ⟨by grind,by grind⟩,i2 y0 s _ hy h0 hs (i1 x0 _ _ hx f2.1 (by grind) ⟨by grind,by grind⟩),?_⟩;exact i3 z0 s _ hz h0 hs (i2 y0 _ _ hy f2.1 (by grind) (i1 x0 _ _ hx f3.1 (by grind) ⟨by grind,by grind⟩))
def S6{rs:List (List Tm)}{t:Jr}{box:List Jr}(hi:i<box.length)(k:Nat):
  el (el (Jt rs t box (k+1)) i) (k+1)=JE (el (KS (el rs i) (ZX t k::Jt rs t box k) k) k) ((((k+1:Nat):Int):Rat)⁻¹,(((k+1:Nat):Int):Rat)⁻¹):=by
 have hl:=KY rs t box k hi;rw[Jt,YP _ hi,Ja (by rw[bw,hl];simp),List.getElem_append_right O];simp only[hl,Nat.sub_self,List.getElem_cons_zero]
def QGT{t:Jr}(hu:ZW u t):∀k,ZW (if k=0 then u else if k=1 then 1 else 0) (el (ZX t k) k)
 |0=>hu
 |1=>⟨aa,aa⟩
 |k+2=>by
  rw[if_neg O,if_neg O];show ZW 0 (el (bH (k+1) ((0,0):Jr)) k);rw[Ja wz,aT];exact⟨aa,aa⟩
theorem QGU{t:Jr}(hu:ZW u t):∀k i,i<=k->∃y,ZW y (el (ZX t k) i)
 |0,i,h=>⟨u,by obtain rfl:i=0:=O;exact hu⟩
 |k+1,0,_=>⟨u,hu⟩
 |k+1,1,_=>⟨1,aa,aa⟩
 |k+1,i+2,h=>⟨0,by
  show ZW 0 (el (bH k ((0,0):Jr)) i);rw[Ja (by simpa using(by omega:i<k)),aT];exact⟨aa,aa⟩⟩
def FU{a b:List Jr}{y:Rat}(hk:k<a.length)(hx:ZW x (el a k))(hy:ZW y (el b k)):ZW (x+y) (el (BM a b) k):=by
 unfold BM;rw[YP _ hk];exact AH hx hy
def IX(k:Nat):ZW 0 (el (VK 0 k) k):=by
 have:=uj 0 k k (ai _)
 rwa [ite_self]at this
theorem QFJ{t:Jr}{k:Nat}(hV:V.length=3)(hu:ZW u t):
  ZW ((if k=0 then a else 0)+b*(if k=0 then u else if k=1 then 1 else 0)) (el (KS (xO a b) (ZX t k::V) k) k):=by
 have m1:ZW (b*(if k=0 then u else if k=1 then 1 else 0)) (el (W8 b [1,0,0,0] (ZX t k::V) k (ZX t k::V).length) k):=by
  have e:W8 b [1,0,0,0] (ZX t k::V) k (ZX t k::V).length=VP (VK b k) (ZX t k):=by rw[au,hV];rfl
  rw[e];exact LW (ai _) (QGT hu k) λi hi=>QGU hu k i hi
 have m0:ZW (if k=0 then a else 0) (el (W8 a [0,0,0,0] (ZX t k::V) k (ZX t k::V).length) k):=by
  have e:W8 a [0,0,0,0] (ZX t k::V) k (ZX t k::V).length=VK a k:=by rw[au,hV];rfl
  rw[e];exact uj a k k (ai _)
 unfold KS xO;by_cases hb:b=0<;>by_cases ha:a=0
 ·rw[if_pos hb,if_pos ha];subst hb ha;have:=IX k;rw[ite_self,aJ,aU];exact this
 ·rw[if_pos hb,if_neg ha];subst hb;rw[aJ,aU];have:=FU (a:=VK 0 k) (by rw[Y0];omega) (IX k) m0;rw[aN]at this;exact this
 ·rw[if_neg hb,if_pos ha];subst ha;rw[ite_self];exact FU (a:=VK 0 k) (by rw[Y0];omega) (IX k) m1
 rw[if_neg hb,if_neg ha];have h1:=FU (a:=VK 0 k) (by rw[Y0];omega) (IX k) m1;have h2:=FU (a:=BM (VK 0 k) _) (by rw[MT,Y0];omega) h1 m0;rw[aN,Rat.add_comm]at h2;exact h2
theorem QDH{t:Jr}{k:Nat}{j:Nat}{ks:List Int}(e:W8 1 ks (ZX t k::V) k (ZX t k::V).length=VP (VK 1 k) (el V j))(hx:ZW x (el (el V j) k))(ha:∀i,i<=k->∃y,ZW y (el (el V j) i)):
  ZW x (el (KS [(1,ks)] (ZX t k::V) k) k):=by
 have m:ZW (1*x) (el (VP (VK 1 k) (el V j)) k):=LW (ai _) hx ha;rw[<-e]at m;have:=FU (a:=VK 0 k) (by rw[Y0];omega) (IX k) m;rw[aN,aH]at this;exact this
def iv(k:Nat):Rat:=(((k:Nat):Int):Rat)⁻¹
def ch0(a b u x:Rat):Nat->Rat
 |0=>x
 |k+1=>((if k=0 then a else 0)+b*(if k=0 then u else if k=1 then 1 else 0))*iv (k+1)
def ch1(a b u x y:Rat):Nat->Rat
 |0=>y
 |k+1=>ch0 a b u x k*iv (k+1)
def ch2(a b u x y z:Rat):Nat->Rat
 |0=>z
 |k+1=>ch1 a b u x y k*iv (k+1)
theorem QCW{y z:Rat}{t:Jr}(hu:ZW u t)(hx:ZW x P)(hy:ZW y Q)(hz:ZW z R):∀k,
  ZW (ch0 a b u x k) (el (el (Jt (T9 a b) t [P,Q,R] k) 0) k)/\ZW (ch1 a b u x y k) (el (el (Jt (T9 a b) t [P,Q,R] k) 1) k)/\ZW (ch2 a b u x y z k) (el (el (Jt (T9 a b) t [P,Q,R] k) 2) k):=by
 intro k
 induction k using bG with
 |_ k ih =>
  cases k with
  |zero=>exact⟨hx,hy,hz⟩
  |succ k =>
   have hi:=ih k O;have any:∀i,i<3->∀j,j<=k->∃y,ZW y (el (el (Jt (T9 a b) t [P,Q,R] k) i) j):=λi h3 j hj=>by
    rw[Aq (by simpa using h3) k hj];have:=ih j O;have h:i=0\/i=1\/i=2:=O;rcases h with rfl | rfl | rfl
    ·exact⟨_,this.1⟩
    ·exact⟨_,this.2.1⟩
    exact⟨_,this.2.2⟩
   have hV:(Jt (T9 a b) t [P,Q,R] k).length=3:=by rw[VQ];rfl
   have inv:ZW (iv (k+1)) ((((k+1:Nat):Int):Rat)⁻¹,(((k+1:Nat):Int):Rat)⁻¹):=⟨aa,aa⟩;refine⟨?_,?_,?_⟩
   ·rw[S6 wz k];exact Z2 (QFJ hV hu) inv
   ·rw[S6 wz k];exact Z2 (QDH (j:=0) (by rw[au,hV];rfl) hi.1 (any 0 O)) inv
   rw[S6 wz k];exact Z2 (QDH (j:=1) (by rw[au,hV];rfl) hi.2.1 (any 1 O)) inv
def dS{rs:List (List Tm)}{x on:List Jr}(hi:i<x.length){c:Nat->Rat}{r v:Rat}(hc:∀k,k<n+1->ZW (c k) (el (el (Jt rs (fr,fr) x k) i) k))
  (hr:ZW r (el (el (Jt rs (fr,t2) on (n+1)) i) (n+1))) (e:v=(aD (n+1)).foldl (λs k=>s+c k*(t2-fr)^k) 0+r*(t2-fr)^(n+1)):ZW v (el (Zw rs fr t2 x on n) i):=by
 rw[e,Zw,YP _ hi];exact AH (cg (n+1) λk hk=>by rw[Aq hi n O];exact hc k hk) (Z2 hr ⟨aa,aa⟩)
def QJu:iv 1=1:=wv
def QGH:ae 1 2=iv 2:=wv
def QHg:ae 1 3=iv 3:=wv
def QIn:ae 1 4=iv 4:=wv
theorem QGX{x0 y0 z0:Rat}(ht:fr<=t2)(hP:P.1<=P.2)(hQ:Q.1<=Q.2)(hR:R.1<=R.2)(hg:T8 (Zt (T9 a b) fr t2 [X,Y,Z] [P,Q,R]) [P,Q,R]=true)
  (hx:ZW x0 X) (hy:ZW y0 Y) (hz:ZW z0 Z) {n:Nat} (hn:1<=n/\n<=4) :
  ZW (chX a b fr x0 (t2-fr)) (el (Zw (T9 a b) fr t2 [X,Y,Z] [P,Q,R] n) 0)/\ZW (chY a b fr x0 y0 (t2-fr)) (el (Zw (T9 a b) fr t2 [X,Y,Z] [P,Q,R] n) 1)/\ZW (chZ a b fr x0 y0 z0 (t2-fr)) (el (Zw (T9 a b) fr t2 [X,Y,Z] [P,Q,R] n) 2):=by
 have p0:ZW P.1 P:=⟨aa,hP⟩;have q0:ZW Q.1 Q:=⟨aa,hQ⟩;have r0:ZW R.1 R:=⟨aa,hR⟩;have hh:0<=t2-fr:=by grind
 have f3:=Ch (n:=3) (.inr (.inl rfl)) hh aa;have f4:=Ch (n:=4) (.inr (.inr rfl)) hh aa;have u3:ZW (fr+(t2-fr)*ae 1 3) (fr,t2):=⟨by grind,by grind⟩;have u4:ZW (fr+(t2-fr)*ae 1 4) (fr,t2):=⟨by grind,by grind⟩;obtain⟨i1,_⟩:=QGt hP hQ hR hg;have x3:=i1 x0 ((t2-fr)*ae 1 3) _ hx f3.1 f3.2 u4;have near:=QCW (a:=a) (b:=b) (show ZW fr (fr,fr)from⟨aa,aa⟩) hx hy hz;have m3:=QCW (a:=a) (b:=b) u3 p0 q0 r0;have m4:=QCW (a:=a) (b:=b) u4 x3 q0 r0;have hc:n=1\/n=2\/n=3\/n=4:=O;rcases hc with rfl | rfl | rfl | rfl
 all_goals
  refine⟨dS wz (λk _=>(near k).1) (m3 _).1 ?_,dS wz (λk _=>(near k).2.1) (m3 _).2.1 ?_,dS wz (λk _=>(near k).2.2) (m4 _).2.2 ?_⟩
 all_goals
  simp only[chX,chY,chZ,aD,aP,List.foldl_cons,List.foldl_nil,ch0,ch1,ch2,QJu,QGH,QHg,QIn,aV,Nat.reduceAdd,Nat.reduceEqDiff,if_true,if_false,reduceIte];generalize iv 2=q2;generalize iv 3=q3;generalize iv 4=q4;generalize t2-fr=h;clear m3 m4 near x3 i1 u3 u4 f3 f4 hg
  grind
def gX(a b c t:Rat):Rat:=c+t*(a+b*(t*iv 2))
def gY(a b c d t:Rat):Rat:=d+t*(c+t*iv 2*(a+b*(t*iv 3)))
def gZ(a b c d e t:Rat):Rat:=e+t*(d+t*iv 2*(c+t*iv 3*(a+b*(t*iv 4))))
def QE0:iv 2*2=1:=wv
def QGq:iv 3*3=1:=wv
def QIl:iv 4*4=1:=wv
theorem QDF(a b c t u:Rat):chX a b t (gX a b c t) (u-t)=gX a b c u:=by
 unfold chX gX;rw[QGH];have h2:=QE0;generalize iv 2=p at *
 grind
theorem QDE(a b c d t u:Rat):chY a b t (gX a b c t) (gY a b c d t) (u-t)=gY a b c d u:=by
 unfold chY gX gY;rw[QGH,QHg];have h2:=QE0;have h3:=QGq;generalize iv 2=p at *
 generalize iv 3=q at *
 grind
theorem QDD(a b c d e t u:Rat):chZ a b t (gX a b c t) (gY a b c d t) (gZ a b c d e t) (u-t)=gZ a b c d e u:=by
 unfold chZ gX gY gZ;rw[QGH,QHg,QIn];have h2:=QE0;have h3:=QGq;have h4:=QIl;generalize iv 2=p at *
 generalize iv 3=q at *
 generalize iv 4=r at *
 grind
theorem QHw(a b:Rat):j7 (T9 a b) 3:=by
 intro i hi t ht;have h:i=0\/i=1\/i=2:=O;rcases h with rfl | rfl | rfl
 ·have:=C0 a b t ht;exact⟨O,this.2⟩
 ·have ht:t∈[((1,[0,1,0,0]):Tm)]:=ht;rw[bm]at ht;subst ht;exact⟨wz,wz⟩
 have ht:t∈[((1,[0,0,1,0]):Tm)]:=ht;rw[bm]at ht;subst ht;exact⟨wz,wz⟩
theorem Lg{l:List Jr}(h:l.length=3):l=[el l 0,el l 1,el l 2]:=by
 match l,h with
 |[x,y,z],_=>rfl
def C1(a b c d e t:Rat)(l:List Jr):Prop:=l.length=3/\ZW (gX a b c t) (el l 0)/\ZW (gY a b c d t) (el l 1)/\ZW (gZ a b c d e t) (el l 2)
def C1.out{d e:Rat}{l:List Jr}(h:C1 a b c d e t l)(bt:Int):C1 a b c d e t (l.map (Xe · bt)):=by
 obtain⟨hl,h0,h1,h2⟩:=h;refine⟨by rw[ax,hl],?_,?_,?_⟩
 ·rw[GH _ O];exact h0.sub (BO (aq h0.1 h0.2) bt)
 ·rw[GH _ O];exact h1.sub (BO (aq h1.1 h1.2) bt)
 rw[GH _ O];exact h2.sub (BO (aq h2.1 h2.2) bt)
theorem C1.ord{d e:Rat}{l:List Jr}(h:C1 a b c d e t l):MW l:=by
 obtain⟨hl,h0,h1,h2⟩:=h;intro i hi;have hc:i=0\/i=1\/i=2:=O;rcases hc with rfl | rfl | rfl
 ·exact aq h0.1 h0.2
 ·exact aq h1.1 h1.2
 exact aq h2.1 h2.2
theorem QGW{d e:Rat}(hn:1<=n/\n<=4){bt:Int}(es:List Rat):∀(fr:Rat) (x:List Jr) (tb:List (Rat×List Jr×List Jr)),C1 a b c d e fr x ->
  (∀i,i<es.length->(if i=0 then fr else el es (i-1))<=el es i)->Wk (T9 a b) n bt fr x es=some tb ->
  tb.length=es.length/\∀i,i<es.length->(el tb i).1=el es i/\C1 a b c d e (el es i) (el tb i).2.2/\∀t,(if i=0 then fr else el es (i-1))<=t->t<=el es i->C1 a b c d e t (el tb i).2.1:=by
 induction es with
 |nil =>
  intro fr x tb _ _ h;obtain rfl:[]=tb:=bI h;exact⟨rfl,λi hi=>by cases hi⟩
 |cons u es ih =>
  intro fr x tb hx ho h;rw[cT]at h;unfold Y4 at h;cases hp:YX (T9 a b) fr u x bt with
  |none=>rw[hp]at h;simp at h
  |some W =>
   rw[hp]at h;simp only[bA]at h;have ht:fr<=u:=ho 0 wz;obtain⟨v,hl,hg,_,hW,hgood⟩:=CQ hx.ord ht (by rw[hx.1];exact QHw a b) hp;have hWl:W.length=3:=by rw[hW.1,hl,hx.1]
   have hWe:=Lg hWl;have w0:=hW.ord 0 O;have w1:=hW.ord 1 O;have w2:=hW.ord 2 O;have hxe:=Lg hx.1;rw[hWe,hxe]at hgood;have hin:∀t,fr<=t->t<=u->C1 a b c d e t W:=λt h1 h2=>by
    obtain⟨g0,g1,g2⟩:=QGY ht w0 w1 w2 hgood hx.2.1 hx.2.2.1 hx.2.2.2 (s:=t-fr) (by grind) (by grind);rw[QDF]at g0;rw[QDE]at g1;rw[QDD]at g2;exact⟨hWl,g0,g1,g2⟩
   obtain⟨l0,l1,l2⟩:=QGX ht w0 w1 w2 hgood hx.2.1 hx.2.2.1 hx.2.2.2 hn;rw[QDF]at l0;rw[QDE]at l1;rw[QDD]at l2;rw[<-hWe,<-hxe]at l0 l1 l2;have hT:C1 a b c d e u (Zw (T9 a b) fr u x W n):=⟨by simp[Zw,hx.1],l0,l1,l2⟩;have hL:=hT.out bt;generalize (Zw (T9 a b) fr u x W n).map (Xe · bt)=L at h hL;cases ht2:Wk (T9 a b) n bt u L es with
   |none=>rw[ht2]at h;simp at h
   |some r =>
    rw[ht2]at h;obtain rfl:(u,W,L)::r=tb:=by simpa using h
    obtain⟨r1,r2⟩:=ih u L r hL (λi hi=>by
     have:=ho (i+1) (by simpa using hi);cases i with
     |zero=>exact this
     |succ i=>exact this) ht2
    refine⟨by simp[r1],λi hi=>?_⟩;cases i with
    |zero=>exact⟨rfl,hL,hin⟩
    |succ i =>
     have:=r2 i (by simpa using hi);cases i with
     |zero=>exact this
     |succ i=>exact this
theorem zB{l:Rat}(hh:0<=h)(hl:l<=u):JE (0,h) (l,u)=(if h*l<0 then h*l else 0,if 0<h*u then h*u else 0):=by
 have m:=av hl hh;have e:=Gh (0*l) [0*u,h*l,h*u];have m1:ZW (0*l) (JE (0,h) (l,u)):=YL wz;have m3:ZW (h*l) (JE (0,h) (l,u)):=YL (l:=[0*u,h*l,h*u]) wz;have m4:ZW (h*u) (JE (0,h) (l,u)):=YL (l:=[0*u,h*l,h*u]) wz;have e1:(JE (0,h) (l,u)).1∈(0*l)::[0*u,h*l,h*u]:=e.1;have e2:(JE (0,h) (l,u)).2∈(0*l)::[0*u,h*l,h*u]:=e.2;simp only[aJ,ak,ag,or_false]at e1 e2 m1;generalize JE (0,h) (l,u)=q at *
 obtain⟨a,b⟩:=q;unfold ZW at m1 m3 m4;dsimp only at *
 have r1:a=if h*l<0 then h*l else 0:=by
  split<;>(rcases e1 with e | e | e | e<;>grind)
 have r2:b=if 0<h*u then h*u else 0:=by
  split<;>(rcases e2 with e | e | e | e<;>grind)
 rw[r1,r2]
theorem QBL{l m:Rat}(hh:0<=h)(hl:l<=u)(hm:0<=m):(JE (0,h) (l,u)).1-h*m<=(JE (0,h) (l-m,u+m)).1/\(JE (0,h) (l-m,u+m)).2<=(JE (0,h) (l,u)).2+h*m:=by
 rw[zB hh hl,zB hh (by grind)];have k:=bc hh hm;dsimp only;constructor<;>(split<;>split<;>grind)
theorem cW{l:Rat}(hh:0<=h)(hl:l<=u):h*(u-l)<=(JE (0,h) (l,u)).2-(JE (0,h) (l,u)).1:=by
 rw[zB hh hl];have m:=av hl hh;dsimp only;split<;>split<;>grind
theorem WV{y:Rat}(hF:Fits F w)(h:Jd s=0)(hy:JQ y<=100000):Qe prog 16 [tx s,tx (Jh y)] w F (tx (Jh (Qh s*y))):=by
 have h1:=Lt (x:=Qh s) (y:=y) hF (wk<|YM h) hy;rw[<-(XI h).1]at h1;exact h1
def atT:List Vp->Rat->Option (List (List UInt8×List UInt8))
 |[],_=>none
 |b::tb,t=>if Z7 (Qh b.e) t=0 then some b.ll else if Z7 (Qh b.e) t>0 then some b.wl else atT tb t
def atE(y:ZR)(tb:List Vp)(t:List UInt8):Int:=Qp [Qp [y.e,BB y.nm.n tb],Jd t]
def atV(y:ZR)(tb:List Vp)(t:Rat):Option (List (List UInt8×List UInt8)):=if D8 t.num<0 then none else if D8 t.num=0 then some y.sl else atT tb t
def atR(e:Int)(o:Option (List (List UInt8×List UInt8))):List (List UInt8×List UInt8)×Int:=if e≠0 then([],e)else match o with
 |none=>([],3)
 |some l=>(l,0)
def QGw{e:Int}{o:Option (List (List UInt8×List UInt8))}(h:e≠0):atR e o=([],e):=by unfold atR;rw[if_pos h]
def QI2(l:List (List UInt8×List UInt8)):atR 0 (some l)=(l,0):=rfl
structure AtI(tb:List Vp)(t:Rat) where
 i:Nat
 le:i<=tb.length
 h:atT tb t=atT (tb.drop i) t
def dC{tb:List Vp}(h:i<tb.length):atT (tb.drop i) t=if Z7 (Qh (el tb i).e) t=0 then some (el tb i).ll else if Z7 (Qh (el tb i).e) t>0 then some (el tb i).wl else atT (tb.drop (i+1)) t:=by rw[Hy h];rfl
def KM.nil(F:Gs)(c:Nat):KM F ⟨none,0,c⟩ []:=⟨Qw.nil F none 2,rfl⟩
theorem QF3(l:List (List UInt8×List UInt8)):∀v∈l.flatMap UH,v.oneCell'=true:=λv hv=>by
 obtain⟨s,_,h⟩:=List.mem_flatMap.1 hv;simp only[UH,ak,ag,or_false]at h;rcases h with rfl | rfl<;>rfl
theorem vG{r:Sr}{l:List (List UInt8×List UInt8)}(hF:Fits F w)(hx:KM F r l)(hn:r.n<=1000000):QT prog 110 [r.v] w F (λ(c:Sr)=>c.v) (λc F=>KM F c l):=by
 obtain⟨q,n,c⟩:=r;dsimp only[Sr.v];have hl:=hx.len;dsimp only at hl hn;refine QT.intro (G:=λF=>KM F ⟨q,n,c⟩ l) func110 rfl wy rfl rfl hF (λF' hF'=>hx.le hF')<|QKO<|wQ rfl<|QG<|wR rfl<|QA (xH rfl rfl XW)<|QE<|QC ?_
 refine QO I (λhc2=>?_) λhc2=>?_
 ·obtain rfl:q=none:=by
   cases q with
   |none=>rfl
   |some a=>cases hc2
  have h0:n=0:=hx.row.QIi I;obtain rfl:l=[]:=List.length_eq_zero_iff.1 O;refine wA 6 I ?_;exact QQ ((⟨none,0,0⟩:Sr)) I (wN I) (rfl) λF hR=>KM.nil F 0
 obtain⟨a,rfl⟩:∃a,q=some a:=by
  cases q with
  |none=>cases hc2
  |some a=>exact⟨a,rfl⟩
 refine QKr 4 I<|Bi (Qz XW) J1 λb5=>QJD I<|Ys (bs1:=[]) (ob:=[(b5,.cells ([]++[]:List Value).toArray 56 (0,0))]) (n:=0) (k:=n) (sz:=2) (news:=l.flatMap UH) rfl rfl XW J1 Xh I QDK (.some rfl rfl (ai _) wu) (Src.QDX (λF hR=>hR.row) (by rw[D6 (f:=UH) Gn l,hl])) O O (QF3 l) λv7 ob7 hr7=>?_
 rw[aV,ah]at hr7;obtain⟨⟨rq,rn,rc⟩,hv2,hrn,hrc,hfix⟩:=Q7.fix (w0:=w) (F0:=F) (bs1:=[]) (G:=_) hr7;dsimp only at hrn hrc hfix;subst hrn;refine YB hfix ?_;rw[hv2];dsimp only[Sr.v];refine wQ I<|QW ?_
 exact QQ ((⟨rq,rn,rc⟩:Sr)) I (wN I) (rfl) λF ⟨hR,hrow⟩=>⟨hrow,hl⟩
theorem QJ7{r:Sr}{tb:List Vp}{t:List UInt8}(hF:Fits F w)(hGl:JC F)(hy:ZZ F y)(ht:HM y)(hx:Sw F r tb)(hc:gP r tb)(htl:t.length<=1000000):QT prog 28 [y.v,r.v,tx t] w F (λ(c:Sr)=>.tuple #[c.v,.int .i64 (atR (atE y tb t) (atV y tb (Qh t))).2]) (λc F=>KM F c (atR (atE y tb t) (atV y tb (Qh t))).1):=by
 have hxr:=hx.len;have hcn:=hc.n;refine QT.intro (G:=λF=>JC F/\ZZ F y/\Sw F r tb) func28 rfl wy rfl rfl hF (λF' hF'=>⟨hGl.le hF',hy.le hF',hx.le hF'⟩)<|QKO<|Qu rfl (vs:=[_,_,_]) rfl λb3=>QJE rfl<|wQ rfl<|QG<|QKO<|QA (wI I XA .here)<|QJD rfl<|QI rfl (λ_ _ f k=>QAn (y:=y) f k.1 k.2.1 ht k.2.2 hc) λ_=>QJD rfl<|QI rfl (λ_ _ f k=>B5 f k.1.1 htl) λ_=>Qb rfl (Qz ZL) YT H5 rfl rfl λb18=>QI rfl (λ_ _ f k=>YO f (Qw.of (cs:=List.map Jn [_,_]) k.2 rfl) wu) λ_=>wQ rfl<|wR rfl<|QA (QU rfl rfl rfl) ?_
 refine QE<|QC ?_
 refine QO I (λhc2=>?_) λhc2=>?_
 ·have h21:atE y tb t≠0:=bne_iff_ne.1 hc2;refine wA 8 I ?_;exact JY ((⟨none,0,0⟩:Sr)) I (wO I I) (by rw[QGw h21]<;>rfl) λF h9=>by rw[QGw h21];exact KM.nil F 0
 have h21:atE y tb t=0:=bne_eq_false_iff_eq.1 hc2;have hct:Jd t=0:=Q8 h21 _ (.tail _ (.head _));have hfz:=Q8 h21 (Qp [y.e,BB y.nm.n tb]) (.head _);have hto:=xE (Q8 hfz (BB y.nm.n tb) (.tail _ (.head _)));have hct2:∀b∈tb,b.e.length<=1000000/\H8 b.w b.wl/\H8 b.l b.ll:=hc.t.resolve_left (wk hto.len);refine QKr 5 I<|QI I (λ_ _ f k=>Yw f k.1.1.1.1.1 (XI hct).1 O) λc24=>Qc XZ λb9=>QR (vs:=[_,_,_,_]) I I I Qa I .here .h4 wV<|QKq 5 I<|QA (wJ I Qa .here)<|QI I (λ_ _ f k=>My f k.2) λ_=>QKq 3 I ?_
 refine QO I (λhc2=>?_) λhc2=>?_
 ·have hO:(atV y tb (Qh t))=none:=by unfold atV;rw[if_pos (QKc hc2)]
  refine wA 7 I ?_;exact JY ((⟨none,0,0⟩:Sr)) I (wO I I) (by rw[h21,hO]<;>rfl) λF h9=>by rw[h21,hO];exact KM.nil F 0
 have h27:¬D8 (Qh t).num<0:=QKd hc2;refine QKr 5 I<|QA (wJ I Qa .here)<|QI I (λ_ _ f k=>My f k.1.2) λ_=>QKq 3 I ?_
 refine QO I (λhc2=>?_) λhc2=>?_
 ·have hO:(atV y tb (Qh t))=some y.sl:=by unfold atV;rw[if_neg h27,if_pos (eq_of_beq hc2)]
  refine QKO<|QA (QH I Yx J4)<|QA (Qf I J4 .u1 (.skip (.skip .h1)))<|QI I (λ_ _ f k=>vG f ⟨k.1.1.1.1.1.1.1.2.1.st,k.1.1.1.1.1.1.1.2.1.Sb⟩ ht.sn) λc33=>QKq 5 I ?_
  exact JY (c33) rfl (wO I I) (by rw[h21,hO]<;>rfl) λF h9=>by rw[h21,hO];exact h9.2
 have hO:(atV y tb (Qh t))=atT tb (Qh t):=by unfold atV;rw[if_neg h27,if_neg (by simpa using hc2)]
 refine QKr 6 I<|QA (Qg I DB)<|QKq 4 I<|XM (ι:=AtI tb (Qh t)) [(9,_),(34,_),(35,_)] (λi=>[(36,.int .i64 ((i.i:Nat):Int))]) (λi=>tb.length-i.i) (⟨0,bh _,rfl⟩) wU wS λi=>?_
 simp only[aj,ah];have hi:=i.le;refine wA 6 I ?_;refine QO I (λhc2=>?_) λhc2=>?_
 ·have hlt:i.i<tb.length:=wk<|QKc hc2
  have hem:=Q3 hlt;refine QKr 6 I<|QA (Q6 (n:=r.n) i.i (λF h9=>h9.1.1.1.1.1.1.1.2.2.row) rfl rfl DB Xz O)<|QA (JX (n:=r.n) (vs:=[tx (el tb i.i).e,.slice (el tb i.i).w.q (el tb i.i).w.n (el tb i.i).w.cap,.slice (el tb i.i).l.q (el tb i.i).l.n (el tb i.i).l.cap]) ((i.i)*3) (λF h9=>h9.1.1.1.1.1.1.1.2.2.row) O rfl Xz I λj v hv=>Jc (f:=dG) (l:=tb) LI O hv)<|Qc Wh λb11=>QR (vs:=[_,_,_]) I I I Xz I .here .h3 wU<|QJC<|QG<|JK QJZ mixed wm<|QK (QH I Dg JR)<|QK (Qf I JR .here .h1)<|QM I (λ_ _ f k=>Yw f k.1.1.1.1.1.1.1.1 (XI (hto.e _ hlt)).1 (wk<|(hct2 _ hem).1)) λc42=>QK (wJ I Qa .u1)<|QM I (λ_ _ f k=>GU f k.2 k.1.1.1.2 (wk<|YM (hto.e _ hlt)) (wk<|YM hct)) λ_=>QK (QF I)<|Q5<|QKs 4 I ?_
  refine QKq 5 I ?_;refine QO I (λhc2=>?_) λhc2=>?_
  ·have h45:Z7 (Qh (el tb i.i).e) (Qh t)=0:=eq_of_beq hc2;have hA:(atV y tb (Qh t))=some (el tb i.i).ll:=by rw[hO,i.h,dC hlt,if_pos h45]
   refine QKO<|QA (QH I Mz J4)<|QA (Qf I J4 .here (.skip (.skip .h1)))<|QI I (λ_ _ f k=>vG f (k.1.1.1.1.1.1.1.1.1.2.2.bx _ hem).2 (hct2 _ hem).2.2.n) λc50=>QKq 5 I ?_
   repeat first|refine Q4 ?_|refine Qy ?_
   exact JY (c50) rfl (wO I I) (by rw[h21,hA]<;>rfl) λF h9=>by rw[h21,hA];exact h9.2
  have h45:¬Z7 (Qh (el tb i.i).e) (Qh t)=0:=by simpa using hc2
  refine wA 7 I ?_;refine QO I (λhc2=>?_) λhc2=>?_
  ·have h51:Z7 (Qh (el tb i.i).e) (Qh t)>0:=QKc hc2;have hA:(atV y tb (Qh t))=some (el tb i.i).wl:=by rw[hO,i.h,dC hlt,if_neg h45,if_pos h51]
   refine QKO<|QA (QH I SR J4)<|QA (Qf I J4 .here (.skip .h1))<|QI I (λ_ _ f k=>vG f (k.1.1.1.1.1.1.1.1.1.2.2.bx _ hem).1 (hct2 _ hem).2.1.n) λc56=>QKq 5 I ?_
   repeat first|refine Q4 ?_|refine Qy ?_
   exact JY (c56) rfl (wO I I) (by rw[h21,hA]<;>rfl) λF h9=>by rw[h21,hA];exact h9.2
  have h51:¬Z7 (Qh (el tb i.i).e) (Qh t)>0:=QKd hc2;refine QN<|Qk<|Qk<|QC<|QB<|QA (Qv I I O)<|wB 2 I ?_
  exact Ql (⟨i.i+1,hlt,by rw[i.h,dC hlt,if_neg h45,if_neg h51]⟩) (by show tb.length-(i.i+1)<tb.length-i.i;omega) wV ((.cons _ QJZ)) λF h=>h.1.1
 have hge:tb.length<=i.i:=wk<|QKd hc2
 refine Q2 ?_
 repeat first|refine QY ?_|refine QP wy ?_
 refine QZ<|QKs 8 I ?_
 exact JY ((⟨none,0,0⟩:Sr)) I (wO I I) (by rw[h21,hO,i.h,bJ hge]<;>rfl) λF h9=>by rw[h21,hO,i.h,bJ hge];exact KM.nil F 0
def QD8{t:List UInt8}(h:Jd t=0):t=[48]↔D8 (Qh t).num=0:=by
 constructor
 ·intro e;subst e;decide +kernel
 intro e;have h1:Qh t=0:=Rat.num_eq_zero.1 (zc _ e);rw[(XI h).1,h1];decide +kernel
structure QxR(F:Gs)(r:Sr)(vs:List Jr):Prop where
 row:Qw F r.q r.n 2 (vs.flatMap QDV)
 len:vs.length=r.n
def QxR.le{F':Gs}{r:Sr}{vs:List Jr}(h:QxR F r vs)(k:Gs.le F F'):QxR F' r vs:=⟨h.row.le k,h.len⟩
def cS(vs:List Jr):(Nz vs).flatMap UH=vs.flatMap QDV:=by unfold Nz;rw[List.flatMap_map];rfl
def QxR.Oh{r:Sr}{vs:List Jr}(h:QxR F r vs):KM F r (Nz vs):=⟨by rw[cS];exact h.row,by rw[SM];exact h.len⟩
def QEs(a b:Rat):TX a b=a\/TX a b=b:=by unfold TX;split<;>simp
def QEu(a b:Rat):TY a b=a\/TY a b=b:=by unfold TY;split<;>simp
def gG:Rat:=ae 1 4096
def QCQ:0<gG:=wv
def uW:(((two 12:Int):Rat))⁻¹=gG:=wv
theorem QAL(a:Jr):a.1-gG<=(Xe a 12).1/\(Xe a 12).2<=a.2+gG:=by
 rw[Nk];have h1:=(BV a.1 (12:Int).toNat).2;have h2:=(Pn a.2 (12:Int).toNat).2;have e:ZV (12:Int).toNat=gG:=wv;rw[e]at h1 h2;dsimp only;constructor<;>grind
theorem QHh{A N:Jr}(h:Zc N A):Jq A N=A:=by
 obtain⟨h1,h2,h3⟩:=h;have hA:A.1<=A.2:=aq h1 (aq h2 h3);have k:=BU (b:=N) hA;have m1:=QEs A.1 N.1;have m2:=QEu A.2 N.2;have e1:(Jq A N).1=A.1:=by
  show TX A.1 N.1=A.1;have:TX A.1 N.1<=A.1:=k.1;rcases m1 with e | e
  ·exact e
  rw[e]at this ⊢;exact bF this h1
 have e2:(Jq A N).2=A.2:=by
  show TY A.2 N.2=A.2;have:A.2<=TY A.2 N.2:=k.2.1;rcases m2 with e | e
  ·exact e
  rw[e]at this ⊢;exact bF h3 this
 exact bO e1 e2
def quarter(x:Rat):4*(x*ae 1 4)=x:=by
 rw[ef x,<-Rat.mul_assoc,show(4:Rat)*ae 1 4=1 by decide +kernel,aH]
theorem xx{A NA B:Jr}(hA:A.1<=A.2)(hN:Zc NA A)(hY:Y.1<=Y.2)(hB:B.1<=B.2)(h0:0<=h)(h2:h+h<=1):Zc (Z0 Y (JE (0,h) (Vb 12 A NA))) (Vb 12 B (Z0 Y (JE (0,h) A))):=by
 have gp:=QCQ;have hw:=quarter (A.2-A.1);have oA:(Vb 12 A NA).1<=(Vb 12 A NA).2:=EA hA;have nA:A.1-((A.2-A.1)*ae 1 4+gG+gG)<=(Vb 12 A NA).1/\(Vb 12 A NA).2<=A.2+((A.2-A.1)*ae 1 4+gG+gG):=by
  unfold Vb;rw[QHh hN,uW];have:=QAL (A.1-((A.2-A.1)*ae 1 4+gG),A.2+((A.2-A.1)*ae 1 4+gG));dsimp only at this;constructor<;>grind
 have hm:0<=(A.2-A.1)*ae 1 4+gG+gG:=by grind
 have s1:=ML (a:=(0,h)) (c:=(0,h)) (b:=Vb 12 A NA) (d:=(A.1-((A.2-A.1)*ae 1 4+gG+gG),A.2+((A.2-A.1)*ae 1 4+gG+gG))) (Zc.self h0) ⟨nA.1,oA,nA.2⟩;have s2:=QBL h0 hA hm;have s3:=cW h0 hA;have eA:((A.1,A.2):Jr)=A:=rfl;rw[eA]at s2 s3;generalize JE (0,h) (Vb 12 A NA)=T' at *
 generalize JE (0,h) (A.1-((A.2-A.1)*ae 1 4+gG+gG),A.2+((A.2-A.1)*ae 1 4+gG+gG))=T1 at *
 generalize JE (0,h) A=T at *
 obtain⟨s11,s12,s13⟩:=s1;have hH:=BU (b:=Z0 Y T) hB;have hw2:=quarter ((Jq B (Z0 Y T)).2-(Jq B (Z0 Y T)).1);have hin:∀p q:Rat,p<=q->(Xe (p,q) 12).1<=p/\q<=(Xe (p,q) 12).2:=λp q k=>⟨(BO (a:=(p,q)) k 12).1,(BO (a:=(p,q)) k 12).2.2⟩;unfold Vb;rw[uW];generalize hHe:Jq B (Z0 Y T)=H at *
 obtain⟨a1,a2,a3,a4⟩:=hH;have a3:H.1<=Y.1+T.1:=a3;have a4:Y.2+T.2<=H.2:=a4;generalize (A.2-A.1)*ae 1 4=wq at *
 generalize (H.2-H.1)*ae 1 4=hq at *
 have k3:h*(wq+gG+gG)=h*wq+h*gG+h*gG:=by grind
 have k4:h*(A.2-A.1)=4*(h*wq):=by rw[<-hw];grind
 have k5:h*gG+h*gG<=gG:=by
  have:=aL h2 (aO gp)
  grind
 have hT:T.1<=T.2:=by
  have:=bc h0 (show 0<=A.2-A.1 by grind)
  grind
 obtain⟨b1,b2⟩:=hin (H.1-(hq+gG)) (H.2+(hq+gG)) (by grind);rw[k3]at s2;rw[k4]at s3;refine⟨?_,?_,?_⟩
 ·show(Xe (H.1-(hq+gG),H.2+(hq+gG)) 12).1<=Y.1+T'.1
  grind
 ·show Y.1+T'.1<=Y.2+T'.2
  grind
 show Y.2+T'.2<=(Xe (H.1-(hq+gG),H.2+(hq+gG)) 12).2
 grind
def QFz{a:Jr}(h:O3 n a):Xb a n:=⟨h.1,h.2⟩
theorem QHr{t:Jr}(ht:VG t 1):∀k i,i<=k->VG (el (ZX t k) i) 1
 |0,i,h=>by
  obtain rfl:i=0:=O;exact ht
 |k+1,0,_=>ht
 |k+1,1,_=>VG.pt ⟨wv,aa⟩
 |k+1,i+2,h=>by
  show VG (el (bH k ((0,0):Jr)) i) 1;rw[Ja (by simpa using(by omega:i<k)),aT];exact VG.pt ⟨wv,wv⟩
def CP{a b:List Jr}{m n:Rat}(hk:k<a.length)(hx:VG (el a k) m)(hy:VG (el b k) n):VG (el (BM a b) k) (m+n):=by
 unfold BM;rw[YP _ hk];exact hx.add hy
def Cw(k:Nat):VG (el (VK 0 k) k) 0:=by
 have:=QCT 0 (ca:=0) ⟨wv,aa⟩ k k (ai _)
 rwa [ite_self]at this
theorem QAp{B:Rat}{t:Jr}{k:Nat}(hV:V.length=3)(ht:VG t 1)(ha : -A<=a/\a<=A)(hb : -B<=b/\b<=B):VG (el (KS (xO a b) (ZX t k::V) k) k) (A+B):=by
 have hA:0<=A:=by grind
 have hB:0<=B:=by grind
 have m1:VG (el (W8 b [1,0,0,0] (ZX t k::V) k (ZX t k::V).length) k) B:=by
  have e:W8 b [1,0,0,0] (ZX t k::V) k (ZX t k::V).length=VP (VK b k) (ZX t k):=by rw[au,hV];rfl
  rw[e];have:=Cv (m:=λ_=>1) hb (ai k) λi hi=>QHr ht k i hi
  rwa [bC]at this
 have m0:VG (el (W8 a [0,0,0,0] (ZX t k::V) k (ZX t k::V).length) k) A:=by
  have e:W8 a [0,0,0,0] (ZX t k::V) k (ZX t k::V).length=VK a k:=by rw[au,hV];rfl
  rw[e];exact(QCT a ha k k (ai _)).mono (by split<;>grind)
 unfold KS xO;by_cases hb0:b=0<;>by_cases ha0:a=0
 ·rw[if_pos hb0,if_pos ha0];exact(Cw k).mono (by grind)
 ·rw[if_pos hb0,if_neg ha0];exact(CP (a:=VK 0 k) (by rw[Y0];omega) (Cw k) m0).mono (by grind)
 ·rw[if_neg hb0,if_pos ha0];exact(CP (a:=VK 0 k) (by rw[Y0];omega) (Cw k) m1).mono (by grind)
 rw[if_neg hb0,if_neg ha0];have h1:=CP (a:=VK 0 k) (by rw[Y0];omega) (Cw k) m1;exact(CP (a:=BM (VK 0 k) _) (by rw[MT,Y0];omega) h1 m0).mono (by grind)
theorem vL{t:Jr}{k j:Nat}{ks:List Int}(e:W8 1 ks (ZX t k::V) k (ZX t k::V).length=VP (VK 1 k) (el V j))(ha:∀i,i<=k->VG (el (el V j) i) K):VG (el (KS [(1,ks)] (ZX t k::V) k) k) K:=by
 have m:=Cv (c:=1) (ca:=1) (m:=λ_=>K) ⟨wv,aa⟩ (ai k) ha;rw[<-e,aH]at m;have:=CP (a:=VK 0 k) (by rw[Y0];omega) (Cw k) m
 rwa [aN]at this
theorem QIm(k:Nat):VG (((((k+1:Nat):Int):Rat)⁻¹,(((k+1:Nat):Int):Rat)⁻¹):Jr) 1:=by
 have h1:(1:Rat)<=(((k+1:Nat):Int):Rat):=Rat.intCast_le_intCast.2 (show(1:Int)<=((k+1:Nat):Int) by omega);have h0:(0:Rat)<(((k+1:Nat):Int):Rat):=by grind
 have hi:=Rat.mul_inv_cancel (((k+1:Nat):Int):Rat) (by grind);have hp:=Rat.inv_pos.2 h0;generalize (((k+1:Nat):Int):Rat)=x at *
 have:=aL h1 (aO hp);exact VG.pt ⟨by grind,by grind⟩
theorem QGs{B:Rat}{t:Jr}(ht:VG t 1)(ha : -A<=a/\a<=A)(hb : -B<=b/\b<=B)(hK:A+B<=K)(hP:VG P K)(hQ:VG Q K)(hR:VG R K):∀k,∀i,i<3->VG (el (el (Jt (T9 a b) t [P,Q,R] k) i) k) K:=by
 intro k
 induction k using bG with
 |_ k ih =>
  cases k with
  |zero =>
   intro i h3;have h:i=0\/i=1\/i=2:=O;rcases h with rfl | rfl | rfl
   ·exact hP
   ·exact hQ
   exact hR
  |succ k =>
   have any:∀i,i<3->∀j,j<=k->VG (el (el (Jt (T9 a b) t [P,Q,R] k) i) j) K:=λi h3 j hj=>by
    rw[Aq (by simpa using h3) k hj];exact ih j O i h3
   have hV:(Jt (T9 a b) t [P,Q,R] k).length=3:=by rw[VQ];rfl
   have QHY:∀ {s:Jr},VG s K->VG (JE s ((((k+1:Nat):Int):Rat)⁻¹,(((k+1:Nat):Int):Rat)⁻¹)) K:=λh=>by
    have:=h.times (QIm k)
    rwa [bC]at this
   intro i h3;have h:i=0\/i=1\/i=2:=O;rcases h with rfl | rfl | rfl
   ·rw[S6 wz k];exact QHY ((QAp hV ht ha hb).mono hK)
   ·rw[S6 wz k];exact QHY (vL (j:=0) (by rw[au,hV];rfl) (any 0 O))
   rw[S6 wz k];exact QHY (vL (j:=1) (by rw[au,hV];rfl) (any 1 O))
theorem QBc(h:P.1<=P.2):Kf P 1=P:=by
 have e:Kf P 1=((Yf (P.1^1) [P.2^1]).1,(Yf (P.1^1) [P.2^1]).2):=rfl;rw[e,bL,bK,aH,bL,bK,aH];show(if Z7 P.2 P.1<0 then P.2 else P.1,if Z7 P.2 P.1>0 then P.2 else P.1)=P;have h1:=V6 P.2 P.1;have h2:=V7 P.2 P.1;rw[if_neg (λk=>absurd (h1.1 k) (Rat.not_lt.2 h))];by_cases g:P.1<P.2
 ·rw[if_pos (h2.2 g)]
 have e2:P.2=P.1:=bF (Rat.not_lt.1 g) h;rw[e2,ite_self];exact bO I e2.symm
theorem QCs(h:P.1<=P.2):JE (1,1) P=P:=by
 have hm:∀x,ZW x P->ZW x (JE (1,1) P):=λx hx=>by
  have:=Z2 (x:=1) (y:=x) (a:=(1,1)) (b:=P) ⟨aa,aa⟩ hx
  rwa [aH]at this
 have e:=Gh (1*P.1) [1*P.2,1*P.1,1*P.2];have e1:(JE (1,1) P).1∈(1*P.1)::[1*P.2,1*P.1,1*P.2]:=e.1;have e2:(JE (1,1) P).2∈(1*P.1)::[1*P.2,1*P.1,1*P.2]:=e.2;simp only[aH,ak,ag,or_false]at e1 e2;have m1:=hm P.1 ⟨aa,h⟩;have m2:=hm P.2 ⟨h,aa⟩;generalize JE (1,1) P=q at *
 unfold ZW at m1 m2;refine bO ?_ ?_
 ·rcases e1 with e | e | e | e<;>grind
 rcases e2 with e | e | e | e<;>grind
def QGy(P:Jr):Z0 (0,0) P=P:=by unfold Z0;exact bO (aN _) (aN _)
def QCq(c:Jr)(bs:List Jr)(k0 k1 k2 k3:Int):K7 c bs [k0,k1,k2,k3] 4=(λa3:Jr=>if k3>0 then JE a3 (Kf (el bs 3) k3)else a3) ((λa2:Jr=>if k2>0 then JE a2 (Kf (el bs 2) k2)else a2) ((λa1:Jr=>if k1>0 then JE a1 (Kf (el bs 1) k1)else a1) (if k0>0 then JE c (Kf (el bs 0) k0)else c))):=rfl
def QAe(bs:List Jr)(c:Rat)(k0 k1 k2 k3:Int):J5 bs [(c,[k0,k1,k2,k3])]=Z0 (0,0) (K7 (c,c) bs [k0,k1,k2,k3] 4):=rfl
def QHp(bs:List Jr)(c d:Rat)(k0 k1 k2 k3 l0 l1 l2 l3:Int):J5 bs [(c,[k0,k1,k2,k3]),(d,[l0,l1,l2,l3])]=Z0 (Z0 (0,0) (K7 (c,c) bs [k0,k1,k2,k3] 4)) (K7 (d,d) bs [l0,l1,l2,l3] 4):=rfl
def gU(c T P Q R:Jr):K7 c [T,P,Q,R] [1,0,0,0] 4=JE c (Kf T 1):=by rw[QCq];rfl
def gV(c T P Q R:Jr):K7 c [T,P,Q,R] [0,0,0,0] 4=c:=by rw[QCq];rfl
def QIX(c T P Q R:Jr):K7 c [T,P,Q,R] [0,1,0,0] 4=JE c (Kf P 1):=by rw[QCq];rfl
def QIW(c T P Q R:Jr):K7 c [T,P,Q,R] [0,0,1,0] 4=JE c (Kf Q 1):=by rw[QCq];rfl
def QJz{T:Jr}(h:P.1<=P.2):J5 [T,P,Q,R] [(1,[0,1,0,0])]=P:=by
 rw[QAe,QIX,QBc h,QCs h,QGy]
def QJy{T:Jr}(h:Q.1<=Q.2):J5 [T,P,Q,R] [(1,[0,0,1,0])]=Q:=by
 rw[QAe,QIW,QBc h,QCs h,QGy]
def chF(a b:Rat)(T:Jr):Jr:=J5 [T,(0,0),(0,0),(0,0)] (xO a b)
def QJ0(a b:Rat)(T P Q R:Jr):J5 [T,P,Q,R] (xO a b)=chF a b T:=by
 unfold chF xO;by_cases hb:b=0<;>by_cases ha:a=0
 ·rw[if_pos hb,if_pos ha];exact(show((0,0):Jr)=(0,0)from rfl)
 ·rw[if_pos hb,if_neg ha,ah,QAe,QAe,gV,gV]
 ·rw[if_neg hb,if_pos ha,bD,QAe,QAe,gU,gU]
 rw[if_neg hb,if_neg ha,aX,QHp,QHp,gV,gV,gU,gU]
def QFK(hP:P.1<=P.2)(hQ:Q.1<=Q.2):Zt (T9 a b) fr t2 [X,Y,Z] [P,Q,R]=[Z0 X (JE (0,t2-fr) (chF a b (fr,t2))),Z0 Y (JE (0,t2-fr) P),Z0 Z (JE (0,t2-fr) Q)]:=by
 show[Z0 X (JE (0,t2-fr) (J5 [(fr,t2),P,Q,R] (xO a b))),Z0 Y (JE (0,t2-fr) (J5 [(fr,t2),P,Q,R] [(1,[0,1,0,0])])),Z0 Z (JE (0,t2-fr) (J5 [(fr,t2),P,Q,R] [(1,[0,0,1,0])]))]=_;rw[QJ0,QJz hP,QJy hQ]
theorem DG.drop{l:List Int}(hd:DG B9 l)(k:Nat):DG B9 (l.drop k):=λx hx=>hd x (List.mem_of_mem_drop hx)
structure SmS(Z T D m:Nat)(rs:List (List Tm)):Prop where
 Uz:∀p∈rs,∀u∈p,JQ u.1<=Z/\KD u.2 (m+1)<=D/\u.2.length=m+1/\∀k∈u.2,0<=k/\k<=12
 len:∀p∈rs,p.length<=T
 hn:rs.length=m
def QCU{Q B:Nat}{r:Rat}(h0:0<Q)(hd:r.den ∣ Q)(hs:JQ r<=B):Cl Q 1 B r:=Cl.of r h0 hd (aE (Nat.le_max_left _ _) hs)
theorem Cn{d z:Nat}(h:Uy s d=true)(hz:10^d<=2^z):JQ (Qh s)<=z:=by
 simp only[Uy,ar,decide_eq_true_eq,beq_iff_eq]at h;obtain⟨_,hc,h1,h2⟩:=h;have hs:=(XI hc).1;generalize Qh s=x at hs;have key:∀n:Nat,(ee n).length<=d->n<2^z:=λn hn=>by
  have a:=He (Jx n);rw[Xd]at a;exact bR (bR a (Nat.pow_le_pow_right wu hn)) hz
 have e:numOf (Jh x)=Zn x.num:=by
  unfold numOf;by_cases h:x.den=1
  ·obtain⟨h1,h2⟩:=qT h;rw[h2,bB,h1]
  exact(Ng h).2.2.1
 rw[hs,e,QFb]at h1;have hn:sz x.num<=z:=(XE _ _).2 (key _ O);have hd:sz (x.den:Int)<=z:=by
  refine(XE _ _).2 ?_;rw[bT];by_cases g:x.den=1
  ·have:(1:Nat)<=10^d:=Nat.one_le_pow _ _ wu;have hx:d≠0:=by
    intro h0;have:=V5 x.num.natAbs;have h3:(ee x.num.natAbs).length≠0:=λq=>this (List.length_eq_zero_iff.1 q);omega
   have:1<10^d:=Nat.one_lt_pow hx wu;omega
  refine key _ ?_;rw[hs]at h2;unfold QAi at h2;rw[if_neg λe=>g ((zU x).1 e),(Ng g).2.2.2]at h2;omega
 exact Nat.max_le.2 ⟨hn,hd⟩
structure SmY(y:ZR)(m:Nat):Prop where
 s:SmS 20 4 3 m y.rs
 rl:y.rl.length=m
 pl:∀e∈y.rl,e.2.length=e.1.n/\e.1.n<=1000/\∀t∈e.2,Jd t.f=0
structure ShB(m:Nat)(x:List Jr):Prop where
 len:x.length=m
 sz:∀a∈x,Xb a 160
 ord:MW x
section
variable{y:ZR}{m n:Nat}{fr t2:Rat}{x on:List Jr}(h:SmY y m)(hm:m<=2)(hx:ShB m x)(ho:ShB m on)(hf:JQ fr<=56)(ht:JQ t2<=56)(hlt:fr<=t2)(hn:n<=3)
include h hm hx ho hf ht hlt hn
omit h hm hlt hn in
omit hlt hn in
omit hm hlt in
omit h hm hx ho hf ht hlt in
end
def QG8{c:Sr}{v:List Jr}{F:Gs}(h:v.length=c.n)(hn:c.n<=1000000)(hz:∀a∈v,Xb a 100000):H8 c (Nz v):=⟨hn,λs hs=>by
 obtain⟨a,ha,rfl⟩:=List.mem_map.1 hs;have h1:=hz a ha;have h2:=Eb a.1;have h3:=Eb a.2;have:=h1.1;have:=h1.2;exact⟨by show(Jh a.1).length<=_;omega,by show(Jh a.2).length<=_;omega⟩⟩
def QBs(a:Int):C2 .neq (.int .i64 a) (.int .i64 a)=some (.bool false):=by simp[C2]
structure QI7(n:Nat) where
 i:Nat
 le:i<=n
def mN(F G E al s k:Nat):Nat:=F*(G^k*E^(al*k+s))
section
variable{F G E al:Nat}(hF:0<F)(hG:0<G)(hE:0<E)
include hG hE
include hF
omit hF hG hE in
omit hF hG hE in
variable{be:Nat}
end
structure TyD(F I E B al T n:Nat)(rs:List (List Tm))(t:Jr)(vb:List Jr):Prop where
 f0:0<F
 i0:0<I
 e0:0<E
 inv:∀k,k<n->k+1 ∣ I
 Uz:∀i,i<rs.length->∀u∈el rs i,Cl F 1 B u.1/\KD u.2 (vb.length+1)<=al+1
 len:∀i,i<rs.length->(el rs i).length<=T
 tm:K3 E 1 B t
 box:∀x∈vb,K3 E 1 B x
 hn:rs.length=vb.length
section
variable{F I E B al T n:Nat}{rs:List (List Tm)}{t:Jr}{vb:List Jr}(h:TyD F I E B al T n rs t vb)
include h
omit h in
omit h in
theorem cd(a b:Nat):sz ((a*b:Nat):Int)<=sz ((a:Nat):Int)+sz ((b:Nat):Int):=by rw[Int.natCast_mul];exact Vx _ _
end
theorem vM{v:List Jr}(hl:v.length=n)(hz:∀a∈v,Xb a 1800)(ho:MW v):Ym n (Nz v)=0:=by
 unfold Ym;rw[if_neg (by rw[SM];omega)];have key:∀u:List Jr,(∀a∈u,Xb a 1800/\a.1<=a.2)->Qp ((Nz u).map λs=>Xc s.1 s.2)=0:=by
  intro u
  induction u with
  |nil=>intro _;rfl
  |cons a u ih =>
   intro hu;have h1:=hu a (.head _);have h2:Xc (Jh a.1) (Jh a.2)=0:=QCV (BS h1.1.1 (ai _)) (BS h1.1.2 (ai _)) h1.2;show Qp (Xc (Jh a.1) (Jh a.2)::(Nz u).map λs=>Xc s.1 s.2)=0;rw[h2,ZS];exact ih λx hx=>hu x (.tail _ hx)
 refine key v λa ha=>⟨hz a ha,?_⟩;obtain⟨i,hi,rfl⟩:=ay ha;rw[<-Ja hi];exact ho i hi
def QEp{v:List Jr}(h:∀a∈v,Xb a 1800):Jv v=false:=xI λa ha=>by rw[BS (h a ha).1 (ai _),BS (h a ha).2 (ai _)];rfl
section
variable{m:Nat}{rs:List (List Tm)}{fr t2:Rat}{x on:List Jr}(h:SmS 14 4 2 m rs)(hm:m<=2)(hxl:x.length=m)(hol:on.length=m)(hx:∀a∈x,Xb a 14)(ho:∀a∈on,Xb a 20)(hf:JQ fr<=10)(ht:JQ t2<=10)
include h hm hxl hx hf ht
omit h in
omit h hm hxl hx in
omit h hm hxl hf ht in
include hol ho
omit hm hxl hx h in
end
theorem dz{y:Rat}(hF:Fits F w)(h:Jd s=0)(hy:JQ y<=100000):Qe prog 15 [tx s,tx (Jh y)] w F (tx (Jh (Qh s+y))):=by
 have h1:=FP (x:=Qh s) (y:=y) hF (wk<|YM h) hy;rw[<-(XI h).1]at h1;exact h1
structure NsT(y:ZR)(x:ATk):Prop where
 few:QJw y 2 2 4=true
 n0:y.rt.n≠0
 bn:x.bx.n=y.rt.n
 wn:x.wh.n=y.rt.n
 b:x.bl.all (QGP ((4:Nat):Int))=true
 w:x.wl.all (QGP ((6:Nat):Int))=true
 f:Uy x.fr ((3:Nat):Int)=true
 t:Uy x.te ((3:Nat):Int)=true
 lt:Qh x.fr<Qh x.te
def IN{d:Nat}(h:Uy s (d:Int)=true):s.length<=2*d+2:=by
 unfold Uy at h;rw[ar,decide_eq_true_eq]at h;have:=h.1;omega
def pT{a b:Jr}(ha:VG a M)(hb:VG b M):VG (Jq a b) M:=by
 obtain⟨a1,a2⟩:=ha;obtain⟨b1,b2⟩:=hb;refine⟨?_,?_⟩
 ·show -M<=TX a.1 b.1/\TX a.1 b.1<=M;rcases QEs a.1 b.1 with e | e<;>rw[e]<;>assumption
 show -M<=TY a.2 b.2/\TY a.2 b.2<=M;rcases QEu a.2 b.2 with e | e<;>rw[e]<;>assumption
def QIr:gG<=1:=wv
theorem q7{a:Jr}(h:a.1<=a.2)(ha:VG a M):VG (Xe a 12) (M+1):=by
 have h1:=QAL a;have h2:=BO h 12;have h3:=QIr;unfold VG at ha ⊢;unfold Zc at h2;exact⟨⟨by grind,by grind⟩,by grind,by grind⟩
theorem qz{v n:Jr}(hv:v.1<=v.2)(mv:VG v M)(mn:VG n M):VG (Vb 12 v n) (2*M+1+1):=by
 have hH:=pT mv mn;have hho:=BU (b:=n) hv;have hw:=quarter ((Jq v n).2-(Jq v n).1);have h3:=QIr;have h4:=QCQ;unfold Vb;rw[uW];refine q7 ?_ ?_
 ·show(Jq v n).1-_<=(Jq v n).2+_
  grind
 unfold VG at hH ⊢;dsimp only;exact⟨⟨by grind,by grind⟩,by grind,by grind⟩
theorem QHZ{A:Jr}{h:Rat}(h0:0<=h)(h1:h<=1)(mY:VG Y M)(mA:VG A K):VG (Z0 Y (JE (0,h) A)) (M+K):=by
 have:=(show VG ((0,h):Jr) 1 from⟨⟨(by decide +kernel:(-1:Rat)<=0),(by decide +kernel:(0:Rat)<=1)⟩,by show(-1:Rat)<=h;grind,h1⟩).times mA;rw[aH]at this;exact mY.add this
theorem QEg{A:Jr}{h:Rat}(h0:0<=h)(hY:Y.1<=Y.2)(hA:A.1<=A.2):(Z0 Y (JE (0,h) A)).1<=(Z0 Y (JE (0,h) A)).2:=(xU (Zc.self hY) (ML (Zc.self (a:=(0,h)) h0) (Zc.self hA))).2.1
theorem cq{v:Jr}(e:Xe v 12=v)(m:VG v (((2:Int)^k:Int):Rat))(hk:k<=1000):Xb v 1800:=by
 have h1:=QFz (QHT (b:=12) m);rw[e]at h1;exact h1.mono (by show k+12+2<=1800;omega)
theorem QCo{N:Jr}(oP:P.1<=P.2)(oN:N.1<=N.2):Zc N (Vb 12 P N):=by
 have w1:=quarter ((Jq P N).2-(Jq P N).1);have w2:=BU (b:=N) oP;have w3:=QCQ;unfold Vb;rw[uW];have w4:=BO (a:=((Jq P N).1-(((Jq P N).2-(Jq P N).1)*ae 1 4+gG),(Jq P N).2+(((Jq P N).2-(Jq P N).1)*ae 1 4+gG))) (by dsimp only;grind) 12;unfold Zc at w4 ⊢;dsimp only at w4;exact⟨by grind,oN,by grind⟩
def I5(v n:Jr):Xe (Vb 12 v n) 12=Vb 12 v n:=by unfold Vb;exact GN _ _
section
variable{a b fr t2:Rat}{X Y Z:Jr}
def nX(a b fr t2:Rat)(X:Jr):Jr:=Z0 X (JE (0,t2-fr) (chF a b (fr,t2)))
def nY(fr t2:Rat)(Y P:Jr):Jr:=Z0 Y (JE (0,t2-fr) P)
def xw(hP:P.1<=P.2)(hQ:Q.1<=Q.2)(lr:Jv [P,Q,R]=false):DE (T9 a b) fr t2 [X,Y,Z] 12 (k+1) [P,Q,R]=if T8 [nX a b fr t2 X,nY fr t2 Y P,nY fr t2 Z Q] [P,Q,R]=true then some ([nX a b fr t2 X,nY fr t2 Y P,nY fr t2 Z Q].map (Xe · 12))else DE (T9 a b) fr t2 [X,Y,Z] 12 k [Vb 12 P (nX a b fr t2 X),Vb 12 Q (nY fr t2 Y P),Vb 12 R (nY fr t2 Z Q)]:=by
 rw[DE,lr,if_neg wu,QFK hP hQ];rfl
theorem QIo{n1 n2 n3:Jr}(h1:Zc n1 P)(h2:Zc n2 Q)(h3:Zc n3 R):T8 [n1,n2,n3] [P,Q,R]=true:=by
 rw[Ed];intro i hi;have hi:i<3:=hi;have h:i=0\/i=1\/i=2:=O;rcases h with rfl | rfl | rfl
 ·exact⟨h1.1,h1.2.2⟩
 ·exact⟨h2.1,h2.2.2⟩
 exact⟨h3.1,h3.2.2⟩
def GdW(k:Nat)(W:List Jr):Prop:=∃P Q R,W=[P,Q,R]/\∀s∈W,VG s (((2:Int)^k:Int):Rat)/\s.1<=s.2/\Xe s 12=s
def p32(m:Nat):(((2:Int)^(m+5):Int):Rat)=32*(((2:Int)^m:Int):Rat):=by
 rw[Int.pow_add,Rat.intCast_mul,ef];rfl
def p1(m:Nat):(1:Rat)<=(((2:Int)^m:Int):Rat):=Rat.intCast_le_intCast.2 (show(1:Int)<=2^m from Int.pow_pos wu)
theorem QHl{n1 n2 n3:Jr}{m:Nat}(o1:n1.1<=n1.2)(o2:n2.1<=n2.2)(o3:n3.1<=n3.2)(h1:VG n1 (31*(((2:Int)^m:Int):Rat)))(h2:VG n2 (31*(((2:Int)^m:Int):Rat)))(h3:VG n3 (31*(((2:Int)^m:Int):Rat))):GdW (m+5) ([n1,n2,n3].map (Xe · 12)):=by
 have k1:=p1 m;refine⟨_,_,_,rfl,λs hs=>?_⟩;rw[p32];have key:∀n:Jr,n.1<=n.2->VG n (31*(((2:Int)^m:Int):Rat))->VG (Xe n 12) (32*(((2:Int)^m:Int):Rat))/\(Xe n 12).1<=(Xe n 12).2/\Xe (Xe n 12) 12=Xe n 12:=λn o h=>⟨(q7 o h).mono (by grind),Hh o 12,GN n 12⟩;simp only[aG,bZ,ak,ag,or_false]at hs;rcases hs with rfl | rfl | rfl
 ·exact key _ o1 h1
 ·exact key _ o2 h2
 exact key _ o3 h3
theorem QHu{m:Nat}(h0:fr<=t2)(h2:(t2-fr)+(t2-fr)<=1)(hX:X.1<=X.2)(hY:Y.1<=Y.2)(hZ:Z.1<=Z.2)(mX:VG X (((2:Int)^m:Int):Rat))(mY:VG Y (((2:Int)^m:Int):Rat))(mZ:VG Z (((2:Int)^m:Int):Rat))(hF:(chF a b (fr,t2)).1<=(chF a b (fr,t2)).2)(mF:VG (chF a b (fr,t2)) (((2:Int)^m:Int):Rat))(hm:m<=900):∃W,YX (T9 a b) fr t2 [X,Y,Z] 12=some W/\GdW (m+5) W:=by
 have hh:0<=t2-fr:=by grind
 have hh1:t2-fr<=1:=by grind
 have k1:=p1 m;have e32:=p32 m;generalize hK:(((2:Int)^m:Int):Rat)=K at *
 have oN:(nX a b fr t2 X).1<=(nX a b fr t2 X).2:=QEg hh hX hF;have mN:VG (nX a b fr t2 X) (2*K):=(QHZ hh hh1 mX mF).mono (by grind);have oY:∀ {P:Jr},P.1<=P.2->(nY fr t2 Y P).1<=(nY fr t2 Y P).2:=λh=>QEg hh hY h;have oZ:∀ {P:Jr},P.1<=P.2->(nY fr t2 Z P).1<=(nY fr t2 Z P).2:=λh=>QEg hh hZ h;have gY:∀ {P:Jr} {M:Rat},VG P M->VG (nY fr t2 Y P) (K+M):=λh=>QHZ hh hh1 mY h;have gZ:∀ {P:Jr} {M:Rat},VG P M->VG (nY fr t2 Z P) (K+M):=λh=>QHZ hh hh1 mZ h;have hul:∀ {u v:Jr},u.1<=u.2->v.1<=v.2->(Jq u v).1<=(Jq u v).2:=λ{u v} h _=>by
  have:=BU (b:=v) h;grind
 have sho:∀ {P Q R:Jr},Xe P 12=P->Xe Q 12=Q->Xe R 12=R->VG P (32*K)->VG Q (32*K)->VG R (32*K)->Jv [P,Q,R]=false:=λ{P Q R} e1 e2 e3 m1 m2 m3=>QEp λs hs=>by
  rw[<-e32]at m1 m2 m3;simp only[ak,ag,or_false]at hs;rcases hs with rfl | rfl | rfl
  ·exact cq e1 m1 O
  ·exact cq e2 m2 O
  exact cq e3 m3 O
 have fin:∀ {P Q:Jr},P.1<=P.2->Q.1<=Q.2->VG P (30*K)->VG Q (30*K)->GdW (m+5) ([nX a b fr t2 X,nY fr t2 Y P,nY fr t2 Z Q].map (Xe · 12)):=λ{P Q} o1 o2 m1 m2=>QHl oN (oY o1) (oZ o2) (by rw[hK];exact mN.mono (by grind)) (by rw[hK];exact(gY m1).mono (by grind)) (by rw[hK];exact(gZ m2).mono (by grind));have e0:YX (T9 a b) fr t2 [X,Y,Z] 12=DE (T9 a b) fr t2 [X,Y,Z] 12 12 [Xe (Jq X (nX a b fr t2 X)) 12,Xe (Jq Y (nY fr t2 Y X)) 12,Xe (Jq Z (nY fr t2 Z Y)) 12]:=by
  unfold YX;rw[QFK hX hY];rfl
 rw[e0];have sN0:Zc (nX a b fr t2 X) (Xe (Jq X (nX a b fr t2 X)) 12):=by
  have u1:=BU (b:=nX a b fr t2 X) hX;have u2:=BO (hul hX oN) 12;unfold Zc at u2 ⊢;exact⟨by grind,oN,by grind⟩
 have oP0:=Hh (hul hX oN) 12;have oQ0:=Hh (hul hY (oY hX)) 12;have oR0:=Hh (hul hZ (oZ hY)) 12;have mP0:VG (Xe (Jq X (nX a b fr t2 X)) 12) (3*K):=(q7 (hul hX oN) (pT (mX.mono (show K<=2*K by grind)) mN)).mono (by grind);have mQ0:VG (Xe (Jq Y (nY fr t2 Y X)) 12) (3*K):=(q7 (hul hY (oY hX)) (pT (mY.mono (show K<=K+K by grind)) (gY mX))).mono (by grind);have mR0:VG (Xe (Jq Z (nY fr t2 Z Y)) 12) (3*K):=(q7 (hul hZ (oZ hY)) (pT (mZ.mono (show K<=K+K by grind)) (gZ mY))).mono (by grind);have i1:=GN (Jq X (nX a b fr t2 X)) 12;have i2:=GN (Jq Y (nY fr t2 Y X)) 12;have i3:=GN (Jq Z (nY fr t2 Z Y)) 12;generalize Xe (Jq X (nX a b fr t2 X)) 12=P0 at *
 generalize Xe (Jq Y (nY fr t2 Y X)) 12=Q0 at *
 generalize Xe (Jq Z (nY fr t2 Z Y)) 12=R0 at *
 rw[xw oP0 oQ0 (sho i1 i2 i3 (mP0.mono (by grind)) (mQ0.mono (by grind)) (mR0.mono (by grind)))];by_cases c0:T8 [nX a b fr t2 X,nY fr t2 Y P0,nY fr t2 Z Q0] [P0,Q0,R0]=true
 ·rw[if_pos c0];exact⟨_,rfl,fin oP0 oQ0 (mP0.mono (by grind)) (mQ0.mono (by grind))⟩
 rw[if_neg c0];have sN1:Zc (nX a b fr t2 X) (Vb 12 P0 (nX a b fr t2 X)):=QCo oP0 oN;have sY1:=xx (Y:=Y) (B:=Q0) oP0 sN0 hY oQ0 hh h2;have oP1:=EA (b:=12) (n:=nX a b fr t2 X) oP0;have oQ1:=EA (b:=12) (n:=nY fr t2 Y P0) oQ0;have oR1:=EA (b:=12) (n:=nY fr t2 Z Q0) oR0;have mP1:=qz oP0 mP0 (mN.mono (show 2*K<=3*K by grind));have mQ1:=qz oQ0 (mQ0.mono (show 3*K<=K+3*K by grind)) (gY mP0);have mR1:=qz oR0 (mR0.mono (show 3*K<=K+3*K by grind)) (gZ mQ0);have j1:=I5 P0 (nX a b fr t2 X);have j2:=I5 Q0 (nY fr t2 Y P0);have j3:=I5 R0 (nY fr t2 Z Q0);have sY1:Zc (nY fr t2 Y (Vb 12 P0 (nX a b fr t2 X))) (Vb 12 Q0 (nY fr t2 Y P0)):=sY1;generalize Vb 12 P0 (nX a b fr t2 X)=P1 at *
 generalize Vb 12 Q0 (nY fr t2 Y P0)=Q1 at *
 generalize Vb 12 R0 (nY fr t2 Z Q0)=R1 at *
 rw[xw oP1 oQ1 (sho j1 j2 j3 (mP1.mono (by grind)) (mQ1.mono (by grind)) (mR1.mono (by grind)))];by_cases c1:T8 [nX a b fr t2 X,nY fr t2 Y P1,nY fr t2 Z Q1] [P1,Q1,R1]=true
 ·rw[if_pos c1];exact⟨_,rfl,fin oP1 oQ1 (mP1.mono (by grind)) (mQ1.mono (by grind))⟩
 rw[if_neg c1];have sN2:Zc (nX a b fr t2 X) (Vb 12 P1 (nX a b fr t2 X)):=QCo oP1 oN;have sY2:Zc (nY fr t2 Y (Vb 12 P1 (nX a b fr t2 X))) (Vb 12 Q1 (nY fr t2 Y P1)):=xx (Y:=Y) (B:=Q1) oP1 sN1 hY oQ1 hh h2;have sZ2:Zc (nY fr t2 Z (Vb 12 Q1 (nY fr t2 Y P1))) (Vb 12 R1 (nY fr t2 Z Q1)):=xx (Y:=Z) (B:=R1) oQ1 sY1 hZ oR1 hh h2;have oP2:=EA (b:=12) (n:=nX a b fr t2 X) oP1;have oQ2:=EA (b:=12) (n:=nY fr t2 Y P1) oQ1;have mP2:=qz oP1 mP1 (mN.mono (show 2*K<=2*(3*K)+1+1 by grind));have mQ2:=qz oQ1 (mQ1.mono (show 2*(K+3*K)+1+1<=10*K by grind)) ((gY mP1).mono (show K+(2*(3*K)+1+1)<=10*K by grind));have mR2:=qz oR1 (mR1.mono (show 2*(K+3*K)+1+1<=11*K by grind)) ((gZ mQ1).mono (show K+(2*(K+3*K)+1+1)<=11*K by grind));rw[xw oP2 oQ2 (sho (I5 _ _) (I5 _ _) (I5 _ _) (mP2.mono (by grind)) (mQ2.mono (by grind)) (mR2.mono (by grind))),if_pos (QIo sN2 sY2 sZ2)];exact⟨_,rfl,fin oP2 oQ2 (mP2.mono (by grind)) (mQ2.mono (by grind))⟩
end
def QGG(h:a<b):Vi a b=0:=by
 unfold Vi;rw[if_neg (by rw[decide_eq_true_eq,Dh];exact Rat.not_le.2 h)]
theorem dN{r:Sr}{v:List Jr}(h:v.length=r.n)(hn:r.n<=1000000)(hz:∀a∈v,Xb a 1800):H8 r (Nz v):=QG8 (F:=λ_=>none) h hn λa ha=>(hz a ha).mono wu
structure BxG(m:Nat)(v:List Jr):Prop where
 len:v.length=m
 ord:MW v
 sz:∀a∈v,Xb a 1800
structure TbG(m:Nat)(es:List Rat)(T:List AT):Prop where
 len:T.length=es.length
 e:∀i,i<es.length->(el T i).1=el es i
 w:∀i,i<es.length->BxG m (el T i).2.1
 l:∀i,i<es.length->BxG m (el T i).2.2
def LS(es:List Rat)(i:Nat):Rat:=if i=0 then((0:Int):Rat)else el es (i-1)
structure EsG(es:List Rat):Prop where
 asc:∀i,i<es.length->LS es i<el es i
 sz:∀i,i<es.length->JQ (el es i)<=1800
 le:es.length<=1000
theorem EsG.lt{es:List Rat}(h:EsG es){j:Nat}:∀ {i},j<i->i<es.length->el es j<el es i:=by
 intro i
 induction i with
 |zero=>intro h;cases h
 |succ i ih =>
  intro h1 h2;have h3:=h.asc (i+1) h2;have e:LS es (i+1)=el es i:=by unfold LS;rw[if_neg O];rfl
  rw[e]at h3;rcases ei j i with g | g
  ·have:=ih g O;grind
  rw[show j=i by omega];exact h3
section
variable{F:Gs}{c:Sr×List Vp}{T:List AT}{es:List Rat}{m:Nat}(hX:Sv F c T)(hE:EsG es)(hT:TbG m es T)
include hX hT
theorem qJ:c.2.length=es.length:=by
 have:=congrArg ep hX.d;unfold P2 at this;rw[ax,ax,hT.len]at this;exact this
theorem SN(h:i<es.length):(el c.2 i).e=Jh (el es i)/\(el c.2 i).wl=Nz (el T i).2.1/\(el c.2 i).ll=Nz (el T i).2.2:=by
 have hn:=qJ hX hT;have hl:=hT.len;have h1:=congrArg (λl=>el l i) hX.d;unfold P2 at h1;rw[GH _ O,GH _ O]at h1;have h2:((el c.2 i).e,(el c.2 i).wl,(el c.2 i).ll)=(Jh (el T i).1,Nz (el T i).2.1,Nz (el T i).2.2):=h1;rw[hT.e i h]at h2;simp only[Prod.mk.injEq]at h2;exact h2
include hE
theorem QFw:BB m c.2=0:=by
 have hn:=qJ hX hT;have hle:=hE.le;unfold BB;rw[if_neg O];have key:∀l:List Nat,(∀i∈l,i<es.length)->Qp (l.map (xQ m c.2))=0:=by
  intro l
  induction l with
  |nil=>intro _;rfl
  |cons i l ih =>
   intro hl;have hi:=hl i (.head _);have h1:=SN hX hT hi;have hw:=hT.w i hi;have hll:=hT.l i hi;have e1:GQ c.2 i=LS es i:=by
    unfold GQ LS;split
    ·rfl
    rw[(SN hX hT (i:=i-1) O).1,SK]
   have e2:xQ m c.2 i=0:=by
    unfold xQ;rw[h1.2.1,h1.2.2,vM hw.len hw.sz hw.ord,vM hll.len hll.sz hll.ord,h1.1,e1];unfold NP;rw[Tq (BS (hE.sz i hi) (ai _)),if_neg wu,SK,QGG (hE.asc i hi)];rfl
   rw[aG,e2,ZS];exact ih λk hk=>hl k (.tail _ hk)
 exact key _ λi hi=>by rw[<-hn];exact List.mem_range.1 hi
theorem QIa(hm:m<=1000000):gP c.1 c.2:=by
 have hn:=qJ hX hT;have hle:=hE.le;refine⟨by rw[<-hX.a.len];omega,.inr λb hb=>?_⟩;obtain⟨i,hi,rfl⟩:=ay hb;rw[<-Ja hi]at hb ⊢;have h1:=SN hX hT (i:=i) O;have h2:=hX.a.bx _ hb;have hw:=hT.w i O;have hll:=hT.l i O;have n1:=h2.1.len;have n2:=h2.2.len;rw[h1.2.1,SM]at n1;rw[h1.2.2,SM]at n2;rw[h1.1,h1.2.1,h1.2.2];have:=Eb (el es i);have:=hE.sz i O;exact⟨O,dN n1 (by rw[<-n1,hw.len];exact hm) hw.sz,dN n2 (by rw[<-n2,hll.len];exact hm) hll.sz⟩
theorem QAu(hi:i<=es.length)(h:∀j,j<i->el es j<t):atT c.2 t=atT (c.2.drop i) t:=by
 have hn:=qJ hX hT
 induction i with
 |zero=>rfl
 |succ i ih =>
  rw[ih O λj hj=>h j O,dC O,(SN hX hT O).1,SK];have h1:=(V6 _ _).2 (h i O);rw[if_neg O,if_neg O]
theorem QH7(hi:i<es.length):atT c.2 (el es i)=some (Nz (el T i).2.2):=by
 have hn:=qJ hX hT;rw[QAu hX hE hT (ek hi) λj hj=>hE.lt hj hi,dC O,(SN hX hT hi).1,(SN hX hT hi).2.2,SK];have h1:=(Dh (el es i) (el es i)).2 aa;have h2:=(xN (el es i) (el es i)).2 aa;rw[if_pos O]
theorem QH6(hi:i<es.length)(h1:LS es i<t)(h2:t<el es i):atT c.2 t=some (Nz (el T i).2.1):=by
 have hn:=qJ hX hT;rw[QAu hX hE hT (ek hi) λj hj=>?_,dC O,(SN hX hT hi).1,(SN hX hT hi).2.1,SK]
 ·have h3:=(V7 _ _).2 h2;rw[if_neg O,if_pos h3]
 have e:LS es i=el es (i-1):=by unfold LS;rw[if_neg O]
 rw[e]at h1;rcases ei j (i-1)with g | g
 ·have:=hE.lt g (show i-1<es.length by omega);grind
 rw[show j=i-1 by omega];exact h1
end
def KM.toQxR{c:Sr}{v:List Jr}(h:KM F c (Nz v)):QxR F c v:=⟨by rw[<-cS];exact h.row,by have:=h.len;rw[SM]at this;exact this⟩
theorem QH8{c:Sr×List Vp}{T:List AT}{es:List Rat}{m:Nat}{V:List Jr}(hF:Fits F w)(hGl:JC F)(hy:ZZ F y)(ht:HM y)(hye:y.e=0)(hnm:y.nm.n=m)(hm:m<=1000000)(hX:Sv F c T)(hE:EsG es)(hT:TbG m es T)(htz:JQ t<=1800)(h0:0<t)(hV:atT c.2 t=some (Nz V)):
  QT prog 28 [y.v,c.1.v,tx (Jh t)] w F (λ(c:Sr)=>.tuple #[c.v,.int .i64 0]) (λc F=>QxR F c V):=by
 have h1:=QJ7 (t:=Jh t) hF hGl hy ht hX.a (QIa hX hE hT hm) (wk<|Eb t);have e1:atE y c.2 (Jh t)=0:=by
  unfold atE;rw[hye,hnm,QFw hX hE hT,Tq (BS htz (ai _))];rfl
 have e2:atV y c.2 (Qh (Jh t))=some (Nz V):=by
  have:=(I8 t).2 h0;unfold atV;rw[SK,if_neg O,if_neg O,hV]
 rw[e1,e2,QI2]at h1;exact h1.imp λc F1 h=>⟨c,rfl,λF2 k=>(KM.toQxR h).le k⟩
theorem QGa(a b:Rat){T:Jr}(hT:T.1<=T.2):(chF a b T).1<=(chF a b T).2:=by
 unfold chF;refine Cq (λt ht=>⟨by rw[(C0 a b t ht).1];exact ai 4,(C0 a b t ht).2⟩) λi hi=>?_;have hi:i<4:=hi;have h:i=0\/i=1\/i=2\/i=3:=O;rcases h with rfl | rfl | rfl | rfl
 ·exact hT
 ·exact aa
 ·exact aa
 exact aa
theorem QH0{B:Rat}{T:Jr}(hT:T.1<=T.2)(mT:VG T 1)(ha : -A<=a/\a<=A)(hb : -B<=b/\b<=B):VG (chF a b T) (A+B):=by
 have hA:0<=A:=by grind
 have hB:0<=B:=by grind
 have z0:VG (0,0) 0:=VG.pt ⟨wv,aa⟩;have m1:VG (JE (b,b) (Kf T 1)) B:=by
  rw[QBc hT];have:=(VG.pt hb).times mT
  rwa [bC]at this
 unfold chF xO;by_cases hb0:b=0<;>by_cases ha0:a=0
 ·rw[if_pos hb0,if_pos ha0];exact z0.mono (by grind)
 ·rw[if_pos hb0,if_neg ha0,ah,QAe,gV];exact(z0.add (VG.pt ha)).mono (by grind)
 ·rw[if_neg hb0,if_pos ha0,bD,QAe,gU];exact(z0.add m1).mono (by grind)
 rw[if_neg hb0,if_neg ha0,aX,QHp,gV,gU];exact((z0.add m1).add (VG.pt ha)).mono (by grind)
theorem QEc{h:Rat}(h0:0<=h)(h1:h<=1):∀n:Nat,0<=h^n/\h^n<=1
 |0=>by rw[bK];exact⟨wv,aa⟩
 |n+1=>by
  obtain⟨p,q⟩:=QEc h0 h1 n;rw[bL];have m1:=bc p h0;have m2:=av h1 p;exact⟨m1,by grind⟩
theorem QEO{h:Rat}(h0:0<=h)(h1:h<=1)(hK:0<=K):∀n:Nat,(aD n).foldl (λs k=>s+K*h^k) 0<=(n:Rat)*K
 |0=>by show(0:Rat)<=((0:Nat):Rat)*K;rw[show((0:Nat):Rat)=0 from rfl,aJ];exact aa
 |n+1=>by
  rw[List.range_succ,List.foldl_append];have ih:=QEO h0 h1 hK n;have p:=(QEc h0 h1 n).2;have m:=av p hK;have e:((n+1:Nat):Rat)=(n:Rat)+1:=by
   show(((n+1:Nat):Int):Rat)=((n:Int):Rat)+((1:Int):Rat);rw[<-Rat.intCast_add];rfl
  rw[e];show(aD n).foldl (λs k=>s+K*h^k) 0+K*h^n<=_
  grind
theorem QHv{fr t2:Rat}{m:Nat}(hn:n<=4)(h0:0<=fr)(h1:fr<=t2)(h2:t2<=1)(ha : -A<=a/\a<=A)(hb : -A<=b/\b<=A)(hA:A+A<=(((2:Int)^m:Int):Rat))(mX:∀s∈[X,Y,Z],VG s (((2:Int)^m:Int):Rat))(mW:∀s∈[P,Q,R],VG s (((2:Int)^(m+5):Int):Rat)):∀s∈(Zw (T9 a b) fr t2 [X,Y,Z] [P,Q,R] n).map (Xe · 12),VG s (((2:Int)^(m+10):Int):Rat)/\s.1<=s.2/\Xe s 12=s:=by
 have hh:0<=t2-fr:=by grind
 have hh1:t2-fr<=1:=by grind
 have k1:=p1 m;have e10:(((2:Int)^(m+10):Int):Rat)=1024*(((2:Int)^m:Int):Rat):=by rw[show m+10=(m+5)+5 from rfl,p32,p32];grind
 rw[p32]at mW;rw[e10];generalize (((2:Int)^m:Int):Rat)=K at *
 intro s hs;obtain⟨u,hu,rfl⟩:=List.mem_map.1 hs;have hu0:=hu;obtain⟨i,hi,rfl⟩:=ay hu;rw[<-Ja hi]at hu0 ⊢;have hi3:i<3:=by simpa[Zw]using hi
 have ho:=xF _ _ _ _ _ _ _ hu0;refine⟨?_,Hh ho 12,GN _ 12⟩;refine(q7 (M:=1000*K) ho ?_).mono (by grind);rw[qN (by simpa using hi3)];have s1:=QCv (l:=el (Jt (T9 a b) (fr,fr) [X,Y,Z] n) i) hh (c:=λ_=>K) (n+1) λk hk=>by
  rw[Aq (by simpa using hi3) n O];exact QGs (t:=(fr,fr)) (VG.pt ⟨by grind,by grind⟩) ha hb hA (mX X wz) (mX Y wz) (mX Z wz) k i hi3
 have s2:=QGs (t:=(fr,t2)) (K:=32*K) ⟨⟨by show -1<=fr;grind,by show fr<=1;grind⟩,by show -1<=t2;grind,h2⟩ ha hb (by grind) (mW P wz) (mW Q wz) (mW R wz) (n+1) i hi3;have p:=QEc hh hh1 (n+1);have s3:=s2.times (VG.pt (x:=(t2-fr)^(n+1)) (m:=1) ⟨by grind,p.2⟩);have s4:=QEO hh hh1 (show 0<=K by grind) (n+1);have s5:((n+1:Nat):Rat)<=5:=by
  show(((n+1:Nat):Int):Rat)<=((5:Int):Rat);exact Rat.intCast_le_intCast.2 O
 have s6:=aL s5 (show 0<=K by grind);exact(s1.add s3).mono (by grind)
theorem QFI(hn:n<=4)(ha : -A<=a/\a<=A)(hb : -A<=b/\b<=A)(es:List Rat):∀(k:Nat) (fr:Rat) (X Y Z:Jr),A+A<=(((2:Int)^k:Int):Rat)->k+10*es.length<=900->(∀s∈[X,Y,Z],VG s (((2:Int)^k:Int):Rat)/\s.1<=s.2)->0<=fr ->
  (∀i,i<es.length->(if i=0 then fr else el es (i-1))<=el es i/\(el es i-(if i=0 then fr else el es (i-1)))+(el es i-(if i=0 then fr else el es (i-1)))<=1/\el es i<=1) ->
  ∃tb,Wk (T9 a b) n 12 fr [X,Y,Z] es=some tb/\∀p∈tb,BxG 3 p.2.1/\BxG 3 p.2.2:=by
 induction es with
 |nil=>intro k fr X Y Z _ _ _ _ _;exact⟨[],rfl,λp hp=>by cases hp⟩
 |cons u es ih =>
  intro k fr X Y Z hA hk hx h0 ho;rw[au]at hk;obtain⟨h1,h2,h3⟩:=ho 0 wz;have h1:fr<=u:=h1;have h2:(u-fr)+(u-fr)<=1:=h2;have h3:u<=1:=h3;have hT:VG (fr,u) 1:=⟨⟨by show -1<=fr;grind,by show fr<=1;grind⟩,by show -1<=u;grind,h3⟩;obtain⟨W,hp,P,Q,R,rfl,hW⟩:=QHu (a:=a) (b:=b) (m:=k) h1 h2 (hx X wz).2 (hx Y wz).2 (hx Z wz).2 (hx X wz).1 (hx Y wz).1 (hx Z wz).1 (QGa a b h1) ((QH0 h1 hT ha hb).mono hA) O;have hL:=QHv (n:=n) hn h0 h1 h3 ha hb hA (λs hs=>(hx s hs).1) (λs hs=>(hW s hs).1);have hl3:((Zw (T9 a b) fr u [X,Y,Z] [P,Q,R] n).map (Xe · 12)).length=3:=by simp[Zw]
  rw[cT];unfold Y4;rw[hp];simp only[bA];generalize (Zw (T9 a b) fr u [X,Y,Z] [P,Q,R] n).map (Xe · 12)=L at hL hl3;have hLe:=Lg hl3;have e10:(((2:Int)^(k+10):Int):Rat)=1024*(((2:Int)^k:Int):Rat):=by rw[show k+10=(k+5)+5 from rfl,p32,p32];grind
  have hk1:=p1 k;obtain⟨tb,ht,hall⟩:=ih (k+10) u (el L 0) (el L 1) (el L 2) (by rw[e10];grind) O (λs hs=>by
   rw[<-hLe]at hs;exact⟨(hL s hs).1,(hL s hs).2.1⟩) (by grind) (λi hi=>by
   have:=ho (i+1) (by simpa using hi);cases i with
   |zero=>exact this
   |succ i=>exact this)
  rw[<-hLe]at ht;rw[ht];refine⟨_,rfl,λp hp=>?_⟩;rcases List.mem_cons.1 hp with rfl | hp
  ·refine⟨⟨rfl,λi hi=>?_,λs hs=>cq (hW s hs).2.2 (hW s hs).1 O⟩,⟨hl3,λi hi=>(hL _ (Q3 hi)).2.1,λs hs=>cq (hL s hs).2.2 (hL s hs).1 O⟩⟩;exact(hW _ (Q3 hi)).2.1
  exact hall p hp
theorem QDM{Q:Nat}:∀ {es:List Rat} {fr:Rat},(∀e∈es,TmC Q e)->(∀i,i<es.length->(if i=0 then fr else el es (i-1))<=el es i)->QD4 Q fr es
 |[],_,_,_=>trivial
 |e::es,fr,h,k=>⟨⟨h e (.head _),k 0 wz⟩,QDM (λx hx=>h x (.tail _ hx)) λi hi=>by
  have:=k (i+1) (by simpa using hi);cases i with
  |zero=>exact this
  |succ i=>exact this⟩
def QDU(x:Rat):Value:=tx (Jh x)
theorem QBS{x:Rat}{B:Jr}(hF:Fits F w)(hx:JQ x<=100000)(hb:Xb B 1800)(h:ZW x B):Qe prog 30 [tx (Jh x),spT B] w F (.bool true):=by
 have h1:=QId (x:=x) (b:=B) hF hx ⟨wk hb.1,wk hb.2⟩;rw[decide_eq_true ((Dh _ _).2 h.1),decide_eq_true ((Dh _ _).2 h.2)]at h1;exact h1
theorem QF6{q:Option Addr}{c:Nat}{rs:List Rat}(hF:Fits F w)(hR:Qw F q n 1 (rs.map QDU))(hn:rs.length=n)(h:∀r∈rs,JQ r<=1800)(hb:n<=1000):Qe prog 14 [.slice q n c] w F (.int .i64 0):=by
 have h1:=QAA (c:=c) (l:=rs.map Jh) hF (by rw[aS];exact hR) ⟨by rw[ax];exact hn,λs hs=>by
  obtain⟨r,hr,rfl⟩:=List.mem_map.1 hs;have:=Eb r;have:=h r hr;omega⟩ O
 have key:∀l:List Rat,(∀r∈l,JQ r<=1800)->Qp ((l.map Jh).map Jd)=0:=by
  intro l
  induction l with
  |nil=>intro _;rfl
  |cons r l ih =>
   intro hl;rw[aG,aG,Tq (BS (hl r (.head _)) (ai _)),ZS];exact ih λx hx=>hl x (.tail _ hx)
 rw[key rs h]at h1;exact h1
def E4(n:Nat):List Rat:=(aD n).map λk:Nat=>ae ((k:Int)+1) 4
def E9(n:Nat):(E4 n).length=n:=by simp[E4]
structure E4T(n:Nat):Prop where
 g:grE (Jh (ae (n:Int) 4)) n=0
 l:cN 0 (grL (Qh (Jh (ae (n:Int) 4))) n)=(0,E4 n)
 e:MI ((E4 n).map Jh)=0
 m:((E4 n).map Jh).map Qh=E4 n
 a:∀i,i<n->LS (E4 n) i<el (E4 n) i/\JQ (el (E4 n) i)<=4/\(8:Nat)%(el (E4 n) i).den=0
 d:∀i,i<n->(if i=0 then((0:Int):Rat)else el (E4 n) (i-1))<=el (E4 n) i/\(el (E4 n) i-(if i=0 then((0:Int):Rat)else el (E4 n) (i-1)))+(el (E4 n) i-(if i=0 then((0:Int):Rat)else el (E4 n) (i-1)))<=1/\el (E4 n) i<=1
 t:JQ (ae (n:Int) 4)<=4
 n9:∀i,i<n->LS (E4 n) i<el (E4 n) i-ae 1 9/\el (E4 n) i-ae 1 9<el (E4 n) i/\0<el (E4 n) i-ae 1 9/\JQ (el (E4 n) i-ae 1 9)<=10/\0<el (E4 n) i
def jM(h:1<=n)(h4:n<=4):E4T n:=by
 obtain rfl | rfl | rfl | rfl:n=1\/n=2\/n=3\/n=4:=O
 all_goals exact⟨wv,wv,wv,wv,wv,wv,wv,wv⟩
theorem E4T.es(h:E4T n)(h4:n<=4):EsG (E4 n):=⟨λi hi=>(h.a i (by rw[E9]at hi;exact hi)).1,λi hi=>aE (h.a i (by rw[E9]at hi;exact hi)).2.1 wu,by rw[E9];omega⟩
def chQ(a b c d e:Rat):Nat:=Q0*(a.den*(b.den*(c.den*(d.den*e.den))))
def QDI(a b c d e:Rat):0<chQ a b c d e:=bj DL (bj a.den_pos (bj b.den_pos (bj c.den_pos (bj d.den_pos e.den_pos))))
theorem QHz{a b c d e:Rat}(ha:JQ a<=14)(hb:JQ b<=14)(hc:JQ c<=14)(hd:JQ d<=14)(he:JQ e<=14):sz ((chQ a b c d e:Nat):Int)<=160:=by
 have h1:=cd Q0 (a.den*(b.den*(c.den*(d.den*e.den))));have h2:=cd a.den (b.den*(c.den*(d.den*e.den)));have h3:=cd b.den (c.den*(d.den*e.den));have h4:=cd c.den (d.den*e.den);have h5:=cd d.den e.den;have h6:sz ((Q0:Nat):Int)<=90:=wv;have k:∀r:Rat,JQ r<=14->sz ((r.den:Nat):Int)<=14:=λr h=>aE (Nat.le_max_right _ _) h;have:=k a ha;have:=k b hb;have:=k c hc;have:=k d hd;have:=k e he;unfold chQ;omega
def QBZ(a b c d e:Rat){k:Nat}(h:Q0%k=0):k ∣ chQ a b c d e:=ao (bM h) (bU _ _)
theorem QFN(a b c d e:Rat):a.den ∣ chQ a b c d e/\b.den ∣ chQ a b c d e/\c.den ∣ chQ a b c d e/\d.den ∣ chQ a b c d e/\e.den ∣ chQ a b c d e:=by
 have l:=λ(x y:Nat)=>Nat.dvd_mul_left x y;have r:=λ(x y:Nat)=>bU x y;unfold chQ;refine⟨?_,?_,?_,?_,?_⟩
 ·exact ao (r _ _) (l _ _)
 ·exact ao (ao (r _ _) (l _ _)) (l _ _)
 ·exact ao (ao (ao (r _ _) (l _ _)) (l _ _)) (l _ _)
 ·exact ao (ao (ao (ao (r _ _) (l _ _)) (l _ _)) (l _ _)) (l _ _)
 exact ao (ao (ao (ao (l _ _) (l _ _)) (l _ _)) (l _ _)) (l _ _)
theorem QHt(ha:JQ a<=14)(hb:JQ b<=14):∀i,i<(T9 a b).length->gD 14 1 2 (3+1) (el (T9 a b) i):=λi hi=>by
 have hi:i<3:=hi;have one:∀ks:List Int,KD ks 4<=1->ks.length=4->(∀k∈ks,0<=k/\k<=12)->gD 14 1 2 (3+1) [((1:Rat),ks)]:=λks h1 h2 h3=>⟨by show 1<=2;omega,λu hu=>by obtain rfl:=List.mem_singleton.1 hu;exact(by decide:JQ 1<=14),λu hu=>by obtain rfl:=List.mem_singleton.1 hu;exact h1,λu hu=>by obtain rfl:=List.mem_singleton.1 hu;exact h2,λu hu=>by obtain rfl:=List.mem_singleton.1 hu;exact h3⟩;have h:i=0\/i=1\/i=2:=O;rcases h with rfl | rfl | rfl
 ·show gD 14 1 2 (3+1) (xO a b);have hm:∀u∈xO a b,u=(b,[1,0,0,0])\/u=(a,[0,0,0,0]):=λu hu=>by
   unfold xO at hu;rcases List.mem_append.1 hu with h | h
   ·split at h
    ·cases h
    exact .inl (List.mem_singleton.1 h)
   split at h
   ·cases h
   exact .inr (List.mem_singleton.1 h)
  refine⟨by unfold xO;split<;>split<;>simp,λu hu=>?_,λu hu=>?_,λu hu=>?_,λu hu=>?_⟩
  ·rcases hm u hu with rfl | rfl<;>assumption
  ·rcases hm u hu with rfl | rfl
   ·exact(by decide:KD [1,0,0,0] 4<=1)
   exact(by decide:KD [0,0,0,0] 4<=1)
  ·rcases hm u hu with rfl | rfl<;>rfl
  rcases hm u hu with rfl | rfl
  ·exact(by decide:∀k∈([1,0,0,0]:List Int),0<=k/\k<=12)
  exact(by decide:∀k∈([0,0,0,0]:List Int),0<=k/\k<=12)
 ·exact one [0,1,0,0] wu rfl wu
 exact one [0,0,1,0] wu rfl wu
theorem QIu{d e:Rat}(ha:JQ a<=14)(hb:JQ b<=14)(hc:JQ c<=14)(hd:JQ d<=14)(he:JQ e<=14){n:Nat}(h4:n<=4):jx (chQ a b c d e) 14 1 2 3 n 12 (T9 a b):=by
 have hq:=QHz ha hb hc hd he;have h0:=QDI a b c d e;have hdv:=QFN a b c d e;have hdy:2^(12:Int).toNat ∣ chQ a b c d e:=QBZ a b c d e wv;have hin:∀k,k<n+1->Cl (chQ a b c d e) 1 0 ((((k+1:Nat):Int):Rat)⁻¹):=λk hk=>uI h0 (QBZ a b c d e ((by decide +kernel:∀k,k<5->Q0%(k+1)=0) k O));generalize chQ a b c d e=Q at hq h0 hdv hdy hin;refine⟨h0,wu,hdy,hin,QHt ha hb,λi hi u hu=>?_,rfl,wu,wu,?_,?_,?_,?_,?_⟩
 ·have hi:i<3:=hi;have h:i=0\/i=1\/i=2:=O;rcases h with rfl | rfl | rfl
  ·have hu:u∈xO a b:=hu;unfold xO at hu;rcases List.mem_append.1 hu with h | h
   ·split at h
    ·cases h
    rw[List.mem_singleton.1 h];exact hdv.2.1
   split at h
   ·cases h
   rw[List.mem_singleton.1 h];exact hdv.1
  ·obtain rfl:=List.mem_singleton.1 hu;exact eu _
  obtain rfl:=List.mem_singleton.1 hu;exact eu _
 all_goals
  obtain rfl | rfl | rfl | rfl | rfl:n=0\/n=1\/n=2\/n=3\/n=4:=O
 all_goals
  (try unfold qD)
  (try unfold tyM)
  (try unfold LQ qO gC bE)
  omega
structure ChT(a b c d e:Rat)(n o:Nat)(tb:List AT):Prop where
 ok:gQ (T9 a b) o 12 ((0:Int):Rat) [(c,c),(d,d),(e,e)] (E4 n)
 t:Wk (T9 a b) o 12 ((0:Int):Rat) [(c,c),(d,d),(e,e)] (E4 n)=some tb
 g:TbG 3 (E4 n) tb
 v:∀i,i<n->C1 a b c d e (el (E4 n) i) (el tb i).2.2/\C1 a b c d e (el (E4 n) i-ae 1 9) (el tb i).2.1
def QHa{r:Rat}(h:JQ r<=14): -16384<=r/\r<=16384:=by
 have h1:=Sf h;unfold AY at h1;have e:(((2:Int)^14:Int):Rat)=16384:=wv;rw[e]at h1;exact h1
theorem QHy{d e:Rat}{o:Nat}(ha:JQ a<=14)(hb:JQ b<=14)(hc:JQ c<=14)(hd:JQ d<=14)(he:JQ e<=14)(h1:1<=n)(h4:n<=4)(o1:1<=o)(o4:o<=4):∃tb,ChT a b c d e n o tb:=by
 have hE:=jM h1 h4;have hG:=hE.es h4;have hl:=E9 n;have q0:=QDI a b c d e;have hdv:=QFN a b c d e;have kc:∀r:Rat,r.den ∣ chQ a b c d e->JQ r<=14->K3 (chQ a b c d e) 1 (qO 2400 1 2 o+1) (r,r):=λr h1 h2=>by
  have:14<=qO 2400 1 2 o+1:=by unfold qO;omega
  exact⟨(QCU q0 h1 h2).mono q0 (ai _) this,(QCU q0 h1 h2).mono q0 (ai _) this⟩
 have e15:(((2:Int)^15:Int):Rat)=32768:=wv;have mg:∀r:Rat,JQ r<=14->VG (r,r) (((2:Int)^15:Int):Rat)/\((r,r):Jr).1<=((r,r):Jr).2:=λr h=>by
  have:=QHa h;rw[e15];exact⟨VG.pt ⟨by grind,by grind⟩,aa⟩
 obtain⟨tb,ht,hall⟩:=QFI (n:=o) o4 (QHa ha) (QHa hb) (E4 n) 15 ((0:Int):Rat) (c,c) (d,d) (e,e) (by rw[e15];decide +kernel) (by rw[hl];omega) (λs hs=>by
  simp only[ak,ag,or_false]at hs;rcases hs with rfl | rfl | rfl
  ·exact mg c hc
  ·exact mg d hd
  exact mg e he) aa λi hi=>hE.d i (by rw[hl]at hi;exact hi)
 have z0:((0:Int):Rat)=0:=rfl;obtain⟨t1,t2⟩:=QGW (a:=a) (b:=b) (c:=c) (d:=d) (e:=e) ⟨o1,o4⟩ (E4 n) ((0:Int):Rat) [(c,c),(d,d),(e,e)] tb ⟨rfl,by
   unfold gX;rw[z0,aJ,aU];exact⟨aa,aa⟩,by
   unfold gY;rw[z0,aJ,aU];exact⟨aa,aa⟩,by
   unfold gZ;rw[z0,aJ,aU];exact⟨aa,aa⟩⟩ (λi hi=>aO (hG.asc i hi)) ht
 have key:∀i,i<n->el tb i∈tb:=λi hi=>Q3 (by rw[t1,hl];exact hi);refine⟨tb,I6 (QIu ha hb hc hd he o4) _ _ _ ⟨rfl,λi hi=>?_,λx hx=>?_⟩ ⟨.zero 1 _,wu⟩ (QDM (λu hu=>?_) λi hi=>aO (hG.asc i hi)),ht,⟨t1,λi hi=>(t2 i hi).1,λi hi=>(hall _ (key i O)).1,λi hi=>(hall _ (key i O)).2⟩,λi hi=>⟨(t2 i O).2.1,(t2 i O).2.2 _ ?_ ?_⟩⟩
 ·have hi:i<3:=hi;have h:i=0\/i=1\/i=2:=O;rcases h with rfl | rfl | rfl<;>exact aa
 ·simp only[ak,ag,or_false]at hx;rcases hx with rfl | rfl | rfl
  ·exact kc c hdv.2.2.1 hc
  ·exact kc d hdv.2.2.2.1 hd
  exact kc e hdv.2.2.2.2 he
 ·obtain⟨i,hi,rfl⟩:=ay hu;rw[<-Ja hi];rw[hl]at hi;have h3:=hE.a i hi;exact⟨(QCU q0 (ao (bM h3.2.2) (QBZ a b c d e wv)) h3.2.1).mono q0 (ai _) wu,aE h3.2.1 wu⟩
 ·exact aO (hE.n9 i hi).1
 exact aO (hE.n9 i hi).2.1
theorem D7:arB prog 50=some (5,41):=wm
def QAr(b:List UInt8):Pt:=if b=[48]then[]else[(b,[1,0,0,0])]
def jW(a b:List UInt8):Pt:=QAr b++if a=[48]then[]else[(a,[0,0,0,0])]
structure RtJ(s:Pt) where
 v:Value
 ob:List (Nat×Obj)
 ts:List MG
 e:YQ ts=s
 hr:Q7 54 2 v ts.length (ts.flatMap Di) ob
def QFX(ts:List MG)(t:MG):YQ (ts++[t])=YQ ts++[(t.f,t.k)]:=by unfold YQ;rw[bW];rfl
def QFy(p q:Pt):X3 (p++q)=X3 p++X3 q:=bW
def QGm(h:Jd s=0):s=[48]↔Qh s=0:=by
 rw[QD8 h];exact⟨λe=>Rat.num_eq_zero.1 (zc _ e),λe=>by rw[e];decide +kernel⟩
theorem QHs{a b:List UInt8}(ha:Jd a=0)(hb:Jd b=0):X3 (jW a b)=xO (Qh a) (Qh b):=by
 unfold jW QAr xO;rw[QFy];have h1:=QGm ha;have h2:=QGm hb;congr 1
 ·by_cases g:b=[48]
  ·rw[if_pos g,if_pos (h2.1 g)];rfl
  rw[if_neg g,if_neg (λk=>g (h2.2 k))];rfl
 by_cases g:a=[48]
 ·rw[if_pos g,if_pos (h1.1 g)];rfl
 rw[if_neg g,if_neg (λk=>g (h1.2 k))];rfl
theorem QGK{n:Nat}(hF:Fits F w)(hGl:JC F)(h1:1<=n)(h4:n<=4):QT prog 24 [tx (Jh (ae (n:Int) 4)),.int .i64 (n:Int)] w F (λ(c:Sr)=>.tuple #[c.v,.int .i64 0]) (λc F=>Qw F c.q c.n 1 ((E4 n).map QDU)/\c.n=n):=by
 have hE:=jM h1 h4;have h:=QGJ (s:=Jh (ae (n:Int) 4)) (n:=(n:Int)) hF hGl (by have:=Eb (ae (n:Int) 4);have:=hE.t;omega);rw[hE.g,aA,hE.l]at h;exact h.imp λc F1 h=>⟨c,rfl,λF2 k=>⟨by have:=h.1.le k;rw[aS]at this;exact this,h.2.1.trans (E9 n)⟩⟩
theorem QFL{a b c d e:List UInt8}{ne cap o:Nat}{q:Option Addr}(hne:ne=n)(ha:Jd a=0)(hb:Jd b=0)(hF:Fits F w)(hGl:JC F)(hy:Nw F y [[120],[121],[122]] [jW a b,[([49],[0,1,0,0])],[([49],[0,0,1,0])]] [(c,c),(d,d),(e,e)])(hye:y.e=0)(hR:Qw F q ne 1 ((E4 n).map QDU))(h1:1<=n)(h4:n<=4)(o1:1<=o)(o4:o<=4)(hT:ChT (Qh a) (Qh b) (Qh c) (Qh d) (Qh e) n o tb):QT prog 26 [y.v,.slice q ne cap,.int .i64 (o:Int),.int .i64 12] w F (λ(d:Sr×List Vp)=>.tuple #[d.1.v,.int .i64 0]) (λd F=>Sv F d tb):=by
 have hE:=jM h1 h4;have e0:X3 [([49],[0,1,0,0])]=[(1,[0,1,0,0])]:=wv;have e0':X3 [([49],[0,0,1,0])]=[(1,[0,0,1,0])]:=wv;have e1:y.rs=T9 (Qh a) (Qh b):=by
  rw[hy.rs,aG,aG,aG,bZ,QHs ha hb,e0,e0'];rfl
 have e2:y.vs=[(Qh c,Qh c),(Qh d,Qh d),(Qh e,Qh e)]:=hy.vs;have h:=dO (y:=y) (es:=(E4 n).map Jh) (o:=(o:Int)) (b:=12) (ce:=cap) hF hGl hy.r hy.t (by rw[aS];exact hR) (by rw[ax,E9,hne]) (.inr λs hs=>by
  obtain⟨e,he,rfl⟩:=List.mem_map.1 hs;obtain⟨i,hi,rfl⟩:=ay he;rw[<-Ja hi];rw[E9]at hi;have:=Eb (el (E4 n) i);have:=(hE.a i hi).2.1;omega) λ_=>by rw[hE.m,e1,e2,aA];exact hT.ok
 have e3:cV y ((E4 n).map Jh) (o:Int) 12=0:=by
  have h9:Hr (o:Int)=0:=by unfold Hr;rw[if_neg w6]
  unfold cV;rw[hye,hE.e,h9];decide
 have hno:tb.any LL=false:=LH λj hj=>by
  have h3:=hT.g.len;have h5:=E9 n;have h6:=hT.g.w j O;have h7:=hT.g.l j O;unfold LL;rw[QEp h6.sz,QEp h7.sz];rfl
 rw[e3,hE.m,e1,e2,aA,hT.t,Hb,hno]at h;exact h
theorem QIv{d e:Rat}{o:Nat}{cc:Sr×List Vp}(h1:1<=n)(h4:n<=4)(hT:ChT a b c d e n o tb)(hX:Sv F cc tb){i j:Nat}(hi:i<n)(hj:j<2):atT cc.2 (el [el (E4 n) i,el (E4 n) i-ae 1 9] j)=some (Nz (el [(el tb i).2.2,(el tb i).2.1] j)):=by
 have hE:=jM h1 h4;have hG:=hE.es h4;have hl:=E9 n;have h:j=0\/j=1:=O;rcases h with rfl | rfl
 ·exact QH7 hX hG hT.g O
 exact QH6 hX hG hT.g O (hE.n9 i hi).1 (hE.n9 i hi).2.1
theorem QIt{d e:Rat}{o:Nat}(h1:1<=n)(h4:n<=4)(hT:ChT a b c d e n o tb){i j:Nat}(hi:i<n)(hj:j<2):C1 a b c d e (el [el (E4 n) i,el (E4 n) i-ae 1 9] j) (el [(el tb i).2.2,(el tb i).2.1] j)/\BxG 3 (el [(el tb i).2.2,(el tb i).2.1] j)/\JQ (el [el (E4 n) i,el (E4 n) i-ae 1 9] j)<=10/\0<el [el (E4 n) i,el (E4 n) i-ae 1 9] j:=by
 have hE:=jM h1 h4;have hl:=E9 n;have h:j=0\/j=1:=O;rcases h with rfl | rfl
 ·exact⟨(hT.v i hi).1,hT.g.l i O,aE (hE.a i hi).2.1 wu,(hE.n9 i hi).2.2.2.2⟩
 exact⟨(hT.v i hi).2,hT.g.w i O,(hE.n9 i hi).2.2.2.1,(hE.n9 i hi).2.2.1⟩
theorem QHx(a b c d e t:Rat):c+(a*t+b*(Qh [49,47,50]*(t*t)))=gX a b c t/\d+(c*t+(a*(Qh [49,47,50]*(t*t))+b*(Qh [49,47,54]*(t*(t*t)))))=gY a b c d t/\e+(d*t+(c*(Qh [49,47,50]*(t*t))+(a*(Qh [49,47,54]*(t*(t*t)))+b*(Qh [49,47,50,52]*(t*t*(t*t))))))=gZ a b c d e t:=by
 have h2:Qh [49,47,50]=iv 2:=wv;have h6:Qh [49,47,54]=iv 2*iv 3:=wv;have h24:Qh [49,47,50,52]=iv 2*iv 3*iv 4:=wv;rw[h2,h6,h24];unfold gX gY gZ;generalize iv 2=p;generalize iv 3=q;generalize iv 4=r;refine⟨by grind,by grind,by grind⟩
theorem QEU(hF:Fits F w)(hs:Jd s=0)(hu:JQ u<=100000):Qe prog 27 [tx (Jh u),tx s] w F (tx (Jh (u-Qh s))):=by
 have h1:=QET (x:=u) (y:=Qh s) hF hu (wk<|YM hs);rw[<-(XI hs).1]at h1;exact h1
section
open Go Go.RowKit Ig
section
variable[Dr][df:Df]{P:Program}{Q:Exit->Act->World->Prop}{N:Nat}{m:Sl}{l:List Oper}{w0:World}{F0:Gs}{bs bs0:List (Nat×Obj)}{G G0:Gs->Prop}
structure It where
 A:List Nat
 d:Nat->Nat
 dep:Nat->List Nat
 V:(Nat->Nat)->Nat->Value
 O:(Nat->Nat)->Nat->Option Obj
 m0:Sl
def ux(β:Nat->Nat)(i b:Nat):Nat->Nat:=λj=>bif af j i then b else β j
def QAm(t:It):List (List Nat):=(Wg t.A).filter λu=>t.A.all λi=>u.contains i||(t.dep i).all λj=>!(u.contains j)
def mxU(t:It)(u:List Nat)(β:Nat->Nat):Sl:=(t.A.filter λi=>!(u.contains i)).map λi=>(t.d i,t.V β i)
def cO(t:It)(u:List Nat)(β:Nat->Nat):List (Nat×Obj):=(t.A.filter λi=>!(u.contains i)).filterMap λi=>(t.O β i).map λo=>(β i,o)
def itU(l:List Oper)(t:It)(r u R:List Nat)(i:Nat):Bool:=u.contains i&&(t.dep i).all (λj=>t.A.contains j&&!(u.contains j))&&t.A.all (λj=>u.contains j||!((t.dep j).contains i))&&(R.erase i==K5 l r (u.erase i))&&(QAm t).contains (u.erase i)&&R.contains i
def okU(l:List Oper)(t:It)(r:List Nat)(k:Nat):Bool:=(QAm t).all λu=>!(K5 l r u).isEmpty&&((K5 l r u).erase k==K5 l (r.erase k) u)&&(match Hg l (K5 l r u)with
 |some i=>itU l t r u (K5 l r u) i
 |none=>((K5 l r u).filter (Vy l (K5 l r u))).all λi=>af i k||itU l t r u (K5 l r u) i)
structure It.Ok(t:It)(P:Program)(l:List Oper)(N:Nat)(w0:World)(F0:Gs)(bs0:List (Nat×Obj))(G0:Gs->Prop):Prop where
 nd:t.A.Nodup
 inj:∀i∈t.A,∀j∈t.A,t.d i=t.d j->i=j
 m0:∀i∈t.A,look t.m0 (t.d i)=none
 loc:∀i∈t.A,∀j∈t.A,j≠i->j∉t.dep i->∀β b,t.V (ux β j b) i=t.V β i/\t.O (ux β j b) i=t.O β i
 step:∀i∈t.A,∃o,l[i]?=some o/\∀(β:Nat->Nat) (mX:Sl) (bsX:List (Nat×Obj)) (G:Gs->Prop),bs0.Sublist bsX->(∀F,G F->G0 F)->∀K:Act->World->Prop,
  (∀b a w,JH N ((t.d i,t.V (ux β i b) i)::((t.dep i).map (λj=>(t.d j,t.V β j))++(t.m0++mX))) a->St ⟨w0,F0,((t.O (ux β i b) i).map λo=>(b,o)).toList++bsX,G⟩ w->K a w) ->
  JD P l.toArray (ZD K) ⟨w0,F0,bs0,G0⟩ [o] N ((t.dep i).map (λj=>(t.d j,t.V β j))++(t.m0++mX)) ⟨w0,F0,bsX,G⟩
def KU(P:Program)(l:List Oper)(Q:Exit->Act->World->Prop)(S0:World->Prop)(t:It)(r:List Nat)(N:Nat)(m:Sl)(w0:World)(F0:Gs)(bs:List (Nat×Obj))(G:Gs->Prop):Prop :=
 ∀(u:List Nat) (β:Nat->Nat) (a:Act) (w:World),u∈QAm t->JH N t.m0 a->JH N m a->(∀i∈t.A,i∉u->a.tmps[t.d i]?=some (t.V β i))->St ⟨w0,F0,cO t u β++bs,G⟩ w->Gd P l Q S0 (K5 l r u).length (K5 l r u) a w
theorem JH.app{x y:Sl}{a:Act}(hx:JH N x a)(hy:JH N y a):JH N (x++y) a:=⟨hx.size,hx.df,λt v h=>by
 rw[Wv]at h;cases e:look x t with
 |some v'=>rw[e]at h;exact hx.get t v (by rw[e];exact h)
 |none=>rw[e]at h;exact hy.get t v h⟩
theorem QAS{d:Nat->Nat}{V:Nat->Value}{s:Nat}{v:Value}:∀ {B:List Nat},look (B.map λj=>(d j,V j)) s=some v->∃j∈B,d j=s/\V j=v
 |[],h=>by cases h
 |j::B,h=>by
  have h':(bif af (d j) s then some (V j)else look (B.map λj=>(d j,V j)) s)=some v:=h;cases e:af (d j) s with
  |true=>rw[e]at h';exact⟨j,wz,aB e,bI h'⟩
  |false=>rw[e]at h';obtain⟨k,hk,h1⟩:=QAS h';exact⟨k,List.mem_cons_of_mem _ hk,h1⟩
theorem Sg{d:Nat->Nat}{V:Nat->Value}:∀ {B:List Nat},k∈B->(look (B.map λj=>(d j,V j)) (d k)).isSome=true
 |j::B,h=>by
  show(bif af (d j) (d k)then some (V j)else look (B.map λj=>(d j,V j)) (d k)).isSome=true;cases e:af (d j) (d k)with
  |true=>rfl
  |false =>
   rcases List.mem_cons.1 h with rfl | h
   ·simp at e
   exact Sg h
theorem JH.ofMap{a a0:Act}{m0:Sl}{d:Nat->Nat}{V:Nat->Value}{B:List Nat}(ha:JH N m0 a)(h:∀j∈B,a.tmps[d j]?=some (V j)):JH N (B.map λj=>(d j,V j)) a:=⟨ha.size,ha.df,λs v hs=>by
 obtain⟨j,hj,rfl,rfl⟩:=QAS hs;exact h j hj⟩
theorem Hi{x y:Sl}{s:Nat}(h:(look x s).isSome=true\/(look y s).isSome=true):(look (x++y) s).isSome=true:=by
 rw[Wv];cases e:look x s with
 |some _=>rfl
 |none=>rw[e]at h;simpa using h
theorem JH.kept{m1:Sl}{a a':Act}{d s:Nat}{v x:Value}(h:JH N m1 a)(h':JH N ((d,v)::m1) a')(hx:a.tmps[s]?=some x)(hs:(look m1 s).isSome=true)(hd:s≠d):a'.tmps[s]?=some x:=by
 obtain⟨y,hy⟩:=Option.isSome_iff_exists.1 hs;have h1:=h.get s y hy;rw[hx]at h1;cases h1;refine h'.get s x ?_;show(bif af d s then some v else look m1 s)=some x;have:af d s=false:=by
  cases e:af d s with
  |false=>rfl
  |true=>exact absurd (aB e).symm hd
 rw[this];exact hy
theorem Tf{γ:Type}{f g:α->Option γ}:∀ {x:List α},(∀a∈x,f a=g a)->x.filterMap f=x.filterMap g
 |[],_=>rfl
 |a::x,h=>by rw[aM,aM,h a wz,Tf λb hb=>h b (by simp[hb])]
theorem kW{γ:Type}(f:α->Option γ){x y:List α}(h:x.Perm y):(x.filterMap f).Perm (y.filterMap f):=h.filterMap f
theorem QJA{t:It}(ho:t.Ok P l N w0 F0 bs0 G0){r u:List Nat}{β:Nat->Nat}{a:Act}{i:Nat}(hm:∀j∈t.A,look m (t.d j)=none)(h0:bs0.Sublist bs)(hg0:∀F,G F->G0 F)(hu:u∈QAm t)(hi:itU l t r u (K5 l r u) i=true)
  (ha0:JH N t.m0 a) (ha:JH N m a) (hx:∀i∈t.A,i∉u->a.tmps[t.d i]?=some (t.V β i)) {R:Act->World->Prop}
  (k:∀β' a' w',JH N t.m0 a'->JH N m a'->(∀j∈t.A,j∉u.erase i->a'.tmps[t.d j]?=some (t.V β' j))->St ⟨w0,F0,cO t (u.erase i) β'++bs,G⟩ w'->R a' w') :
  ∃o m1,l[i]?=some o/\JD P l.toArray (ZD R) ⟨w0,F0,bs0,G0⟩ [o] N m1 ⟨w0,F0,cO t u β++bs,G⟩/\JH N m1 a:=by
 have huA:=(List.mem_filter.1 hu).1;have hun:=Vg ho.nd huA;simp only[itU,ar,bP,decide_eq_true_eq,bV,aW,aQ,decide_eq_false_iff_not]at hi;obtain⟨⟨⟨⟨⟨hiu,hdep⟩,hnd⟩,_⟩,_⟩,_⟩:=hi;have hiA:=DR huA i hiu;obtain⟨o,ho1,hstep⟩:=ho.step i hiA;have s1:JH N ((t.dep i).map λj=>(t.d j,t.V β j)) a:=JH.ofMap (a0:=a) ha0 λj hj=>hx j (hdep j hj).1 (hdep j hj).2;have s2:JH N (mxU t u β) a:=JH.ofMap (a0:=a) ha0 λj hj=>hx j (List.mem_filter.1 hj).1 (by have:=(List.mem_filter.1 hj).2;simpa using this);have s3:=s1.app (ha0.app (ha.app s2));refine⟨o,_,ho1,hstep β (m++mxU t u β) (cO t u β++bs) G (h0.trans (aF _ _)) hg0 R λb a' w' g1 g2=>?_,s3⟩;have kp:∀s x,a.tmps[s]?=some x->(look t.m0 s).isSome=true\/(look m s).isSome=true\/(look (mxU t u β) s).isSome=true->s≠t.d i->a'.tmps[s]?=some x:=λs x hs hl hd =>
  s3.kept g1 hs (Hi (.inr (Hi (hl.imp_right λh=>Hi h)))) hd
 refine k (ux β i b) a' w' ⟨g1.size,g1.df,λs x hs=>?_⟩ ⟨g1.size,g1.df,λs x hs=>?_⟩ (λj hj hju=>?_) (g2.perm ?_)
 ·exact kp s x (ha0.get s x hs) (.inl (by rw[hs];rfl)) λe=>by rw[e,ho.m0 i hiA]at hs;cases hs
 ·exact kp s x (ha.get s x hs) (.inr (.inl (by rw[hs];rfl))) λe=>by rw[e,hm i hiA]at hs;cases hs
 ·by_cases e:j=i
  ·subst e;exact g1.get _ _ (by show(bif af (t.d j) (t.d j)then _ else _)=_;simp)
  have hju':j∉u:=λh=>hju ((hun.mem_erase_iff).2 ⟨e,h⟩);have hl:=ho.loc j hj i hiA (Ne.symm e) ((hnd j hj).resolve_left hju') β b;rw[hl.1];exact kp _ _ (hx j hj hju') (.inr (.inr (Sg (List.mem_filter.2 ⟨hj,by simpa using hju'⟩)))) λh=>e (ho.inj j hj i hiA h)
 have hp:=kW (λj=>(t.O (ux β i b) j).map λo=>(ux β i b j,o)) (Hx ho.nd hun hiA hiu);have e1:(i::t.A.filter λj=>!(u.contains j)).filterMap (λj=>(t.O (ux β i b) j).map λo=>(ux β i b j,o))=((t.O (ux β i b) i).map λo=>(b,o)).toList++cO t u β:=by
  have e2:(t.A.filter λj=>!(u.contains j)).filterMap (λj=>(t.O (ux β i b) j).map λo=>(ux β i b j,o))=cO t u β:=by
   unfold cO;refine Tf λj hj=>?_;have hj':=List.mem_filter.1 hj;have hju:j∉u:=by simpa using hj'.2
   have hne:j≠i:=λe=>hju (e ▸ hiu);rw[(ho.loc j hj'.1 i hiA (Ne.symm hne) ((hnd j hj'.1).resolve_left hju) β b).2];have:ux β i b j=β j:=by
    unfold ux;have:af j i=false:=by
     cases e:af j i with
     |false=>rfl
     |true=>exact absurd (aB e) hne
    rw[this];rfl
   rw[this]
  have e3:ux β i b i=b:=by unfold ux;simp
  rw[aM,e2];cases e:t.O (ux β i b) i with
  |none=>rfl
  |some o=>simp only[bA,e3,Option.toList_some,aX]
 rw[e1]at hp;rw[<-bS];exact hp.symm.append_right bs
theorem QG1{t:It}(ho:t.Ok P l N w0 F0 bs0 G0){r:List Nat}(hm:∀j∈t.A,look m (t.d j)=none)(h0:bs0.Sublist bs)(hg0:∀F,G F->G0 F)(F1:List Nat->Prop)
  (hf:∀u∈QAm t,F1 u\/(K5 l r u).isEmpty=false/\((∃i,Hg l (K5 l r u)=some i/\itU l t r u (K5 l r u) i=true)\/Hg l (K5 l r u)=none/\∀i∈K5 l r u,Vy l (K5 l r u) i=true->itU l t r u (K5 l r u) i=true\/(∀(β:Nat->Nat) a w,JH N t.m0 a->JH N m a->(∀i∈t.A,i∉u->a.tmps[t.d i]?=some (t.V β i))->St ⟨w0,F0,cO t u β++bs,G⟩ w->wpOp P l.toArray (λ_ _ _=>False) i (λa' w'=>St ⟨w0,F0,bs0,G0⟩ w'/\Gd P l Q (St ⟨w0,F0,bs0,G0⟩) ((K5 l r u).erase i).length ((K5 l r u).erase i) a' w') a w)))
  (hk:∀u∈QAm t,F1 u->∀(β:Nat->Nat) a w,JH N t.m0 a->JH N m a->(∀i∈t.A,i∉u->a.tmps[t.d i]?=some (t.V β i))->St ⟨w0,F0,cO t u β++bs,G⟩ w->Gd P l Q (St ⟨w0,F0,bs0,G0⟩) (K5 l r u).length (K5 l r u) a w) :
  KU P l Q (St ⟨w0,F0,bs0,G0⟩) t r N m w0 F0 bs G:=by
 intro u;generalize hn:u.length=n
 induction n using bG generalizing u with
 |ind n ih =>
  intro β a w hu ha0 ha hx hw;rcases hf u hu with h1 | ⟨hne,h1⟩
  ·exact hk u hu h1 β a w ha0 ha hx hw
  obtain⟨x,s,es⟩:=List.exists_cons_of_ne_nil (show K5 l r u≠[]from λe=>by rw[e]at hne;cases hne);rw[show(K5 l r u).length=s.length+1 by rw[es];rfl];unfold Gd;have member:∀i,itU l t r u (K5 l r u) i=true->∃o m1,l[i]?=some o/\JD P l.toArray (ZD λa w=>Gd P l Q (St ⟨w0,F0,bs0,G0⟩) s.length ((K5 l r u).erase i) a w) ⟨w0,F0,bs0,G0⟩ [o] N m1 ⟨w0,F0,cO t u β++bs,G⟩/\JH N m1 a:=λi hi=>by
   have hi':=hi;simp only[itU,ar,bP,decide_eq_true_eq,beq_iff_eq]at hi';obtain⟨⟨⟨⟨⟨hiu,_⟩,_⟩,her⟩,hcl⟩,hmem⟩:=hi';refine QJA ho hm h0 hg0 hu hi ha0 ha hx λβ' a' w' g0 g1 g2 g3=>?_;have hlen:s.length=((K5 l r u).erase i).length:=by rw[aR hmem,es];rfl
   rw[hlen,her];exact ih _ (by rw[<-hn,aR hiu];have:=List.length_pos_of_mem hiu;omega) (u.erase i) rfl β' a' w' hcl g0 g1 g2 g3
  rcases h1 with ⟨i,hp,hi⟩ | ⟨hp,h2⟩
  ·rw[hp];obtain⟨o,m1,ho1,hj,hs⟩:=member i hi;have hq:Jy o.op=true:=by
    have:=List.find?_some hp;simp only[ar]at this;have:=this.1;unfold UT at this;rw[ho1]at this;exact this
   rcases hj (λw h=>h.imp (h0.trans (aF _ _)) hg0) a w hs hw with ⟨_,v,h3,h4⟩ | ⟨h3,_⟩
   ·exact⟨o,v,ho1,h3,h4⟩
   rw[hq]at h3;cases h3
  rw[hp];intro i hi hrd;have hlen:s.length=((K5 l r u).erase i).length:=by rw[aR hi,es];rfl
  rcases h2 i hi hrd with h3 | h3
  ·obtain⟨o,m1,ho1,hj,hs⟩:=member i h3;have hq:Jy o.op=false:=by
    cases e:Jy o.op with
    |false=>rfl
    |true =>
     have:=List.find?_eq_none.1 hp i hi;unfold UT at this;rw[ho1]at this;simp[e,hrd]at this
   rw[hlen]at hj ⊢;exact Dj (r':=(K5 l r u).erase i) (Q:=Q) (E0:=⟨w0,F0,bs0,G0⟩) ho1 hq hj (λw h=>h.imp (h0.trans (aF _ _)) hg0) hs hw
  rw[hlen];exact h3 β a w ha0 ha hx hw
theorem QIk{t:It}(h:(t.A.all λj=>!((m.map (·.1)).contains (t.d j)))=true):∀j∈t.A,look m (t.d j)=none:=λj hj=>MZ (by simpa using List.all_eq_true.1 h j hj)
theorem QDO{t:It}(ho:t.Ok P l N w0 F0 bs0 G0){r:List Nat}(k:Nat){ty:TypeId}{pos:String}{aft:Array Edge}{d:Nat}{o:Op}{γ:Type}{val:γ->Value}{bs1:γ->List (Nat×Obj)}{G1:γ->Gs->Prop}(hok:okU l t r k=true)(hkey:(t.A.all λj=>!((m.map (·.1)).contains (t.d j)))=true)(h0:bs0.Sublist bs)(hg0:∀F,G F->G0 F)
  (ho1:l[k]?=some ⟨some d,o,ty,pos,aft,none⟩) (hq:Jy o=false) (hdA:t.A.all (λj=>!(af d (t.d j)))=true) (hd0:((t.m0.map (·.1)).contains d)=false) (hstep:∀(mX:Sl) (X:List (Nat×Obj)) (K:Act->World->Prop),(∀c a w,JH N ((d,val c)::(m++mX)) a->St ⟨w0,F0,X++bs1 c,G1 c⟩ w->K a w)->JD P l.toArray (ZD K) ⟨w0,F0,bs0,G0⟩ [⟨some d,o,ty,pos,aft,none⟩] N (m++mX) ⟨w0,F0,X++bs,G⟩)
  (hk:∀c,KU P l Q (St ⟨w0,F0,bs0,G0⟩) t (r.erase k) N ((d,val c)::m) w0 F0 (bs1 c) (G1 c)):KU P l Q (St ⟨w0,F0,bs0,G0⟩) t r N m w0 F0 bs G:=by
 have hm:=QIk hkey;have hdd:∀j∈t.A,t.d j≠d:=λj hj e=>by
  have:=List.all_eq_true.1 hdA j hj;rw[e]at this;simp at this
 refine QG1 ho hm h0 hg0 (λ_=>False) (λu hu=>.inr ?_) (λ_ _ h=>h.elim);have h1:=List.all_eq_true.1 hok u hu;simp only[ar,aQ,beq_iff_eq]at h1;obtain⟨⟨c1,c2⟩,c3⟩:=h1;refine⟨c1,?_⟩;cases hp:Hg l (K5 l r u)with
 |some i=>rw[hp]at c3;exact .inl ⟨i,rfl,c3⟩
 |none =>
  rw[hp]at c3;refine .inr ⟨rfl,λi hi hrd=>?_⟩;have h2:=List.all_eq_true.1 c3 i (List.mem_filter.2 ⟨hi,hrd⟩);simp only[aW]at h2;rcases h2 with h2 | h2
  ·have e:=aB h2;subst e;refine .inr λβ a w ha0 ha hx hw=>?_;rw[c2];have s2:JH N (mxU t u β) a:=JH.ofMap (a0:=a) ha0 λj hj=>hx j (List.mem_filter.1 hj).1 (by have:=(List.mem_filter.1 hj).2;simpa using this);have s3:=ha.app (s2.app ha0);refine Dj (r':=K5 l (r.erase i) u) (Q:=Q) (E0:=⟨w0,F0,bs0,G0⟩) ho1 hq (hstep _ _ _ λc a' w' g1 g2=>?_) (λw h=>h.imp (h0.trans (aF _ _)) hg0) s3 hw;have kp:∀s x,a.tmps[s]?=some x->(look m s).isSome=true\/(look (mxU t u β) s).isSome=true\/(look t.m0 s).isSome=true->s≠d->a'.tmps[s]?=some x:=λs x hs hl hd=>s3.kept g1 hs (Hi (hl.imp_right λh=>Hi h)) hd;refine hk c u β a' w' hu ⟨g1.size,g1.df,λs x hs=>?_⟩ ⟨g1.size,g1.df,λs x hs=>?_⟩ (λj hj hju=>?_) g2
   ·refine kp s x (ha0.get s x hs) (.inr (.inr (by rw[hs];rfl))) λe=>?_;rw[e,MZ hd0]at hs;cases hs
   ·have h':(bif af d s then some (val c)else look m s)=some x:=hs;refine g1.get s x ?_;show(bif af d s then some (val c)else look (m++(mxU t u β++t.m0)) s)=some x;cases e:af d s with
    |true=>rw[e]at h';exact h'
    |false=>rw[e]at h';rw[cond_false,Wv,show look m s=some x from h'];rfl
   exact kp _ _ (hx j hj hju) (.inr (.inl (Sg (List.mem_filter.2 ⟨hj,by simpa using hju⟩)))) (hdd j hj)
  exact .inl h2
theorem cF{t:It}(ho:t.Ok P l N w0 F0 bs0 G0){r:List Nat}(k:Nat){ty:TypeId}{pos:String}{aft:Array Edge}{d:Nat}{f:FuncId}{args:Array Operand}{tys:Array TypeId}{vs:List Value}{γ:Type}{val:γ->Value}{fact:γ->Gs->Prop}(hok:okU l t r k=true)(hkey:(t.A.all λj=>!((m.map (·.1)).contains (t.d j)))=true)(h0:bs0.Sublist bs)(hg0:∀F,G F->G0 F)
  (ho1:l[k]?=some ⟨some d,.call ⟨.value (.func f),args,tys⟩,ty,pos,aft,none⟩) (hdA:t.A.all (λj=>!(af d (t.d j)))=true) (hd0:((t.m0.map (·.1)).contains d)=false) (hv:∀mX,MD (m++mX) args.toList=some vs) (hc:∀w F,Fits F w->G F->QT P f vs w F val fact)
  (hk:∀c,KU P l Q (St ⟨w0,F0,bs0,G0⟩) t (r.erase k) N ((d,val c)::m) w0 F0 bs λF=>G F/\fact c F) (hd:J2 N (some d)=true:=by rfl):KU P l Q (St ⟨w0,F0,bs0,G0⟩) t r N m w0 F0 bs G :=
 QDO (bs1:=λ_=>bs) (G1:=λc F=>G F/\fact c F) ho k hok hkey h0 hg0 ho1 rfl hdA hd0 (λmX X K hK=>QM (hv mX) hc (λc=>Hw (hK c)) hd) hk
theorem QJB{t:It}(ho:t.Ok P l N w0 F0 bs0 G0){r:List Nat}(k:Nat){ty:TypeId}{pos:String}{aft:Array Edge}{d:Nat}{tt e:TypeId}{n sz:Nat}{z:List Value}{g:Bool}{parts:Array (Nat×Operand)}{ps:List (Nat×Value)}{cs:List Value}(hok:okU l t r k=true)(hkey:(t.A.all λj=>!((m.map (·.1)).contains (t.d j)))=true)(h0:bs0.Sublist bs)(hg0:∀F,G F->G0 F)
  (ho1:l[k]?=some ⟨some d,.buildSlice tt n parts,ty,pos,aft,none⟩) (hdA:t.A.all (λj=>!(af d (t.d j)))=true) (hd0:((t.m0.map (·.1)).contains d)=false) (hp:∀mX,WY (m++mX) parts.toList=some ps) (ht:P.underlying tt=some (.slice e)) (hs:Z1 P e=some (g,sz)) (hz:J8 P e=some z) (hc:Yu sz 0 ps=some cs) (hl:cs.length=n*sz)
  (hk:∀b,KU P l Q (St ⟨w0,F0,bs0,G0⟩) t (r.erase k) N ((d,.slice (some ⟨b,0,none⟩) n n)::m) w0 F0 ((b,.cells cs.toArray e (0,0))::bs) G) (h24:Nat.ble (n*sz) 16777216=true:=by rfl) (hn:af (n*sz) 0=false:=by rfl) (hu:Gc e=true:=by rfl) (hd:J2 N (some d)=true:=by rfl):KU P l Q (St ⟨w0,F0,bs0,G0⟩) t r N m w0 F0 bs G :=
 QDO (γ:=Nat) (val:=λb=>.slice (some ⟨b,0,none⟩) n n) (bs1:=λb=>(b,.cells cs.toArray e (0,0))::bs) (G1:=λ_=>G) ho k hok hkey h0 hg0 ho1 rfl hdA hd0 (λmX X K hK=>GB (hp mX) ht hs hz hc hl (λb=>Hw λa w ha hw=>hK b a w ha (hw.perm List.perm_middle.symm)) h24 hn hu hd) hk
def QJv(l:List Oper)(t:It)(r:List Nat)(i:Nat):Bool:=(QAm t).all λu=>u.isEmpty||(u==[i])||(!(K5 l r u).isEmpty&&(match Hg l (K5 l r u)with
 |some i=>itU l t r u (K5 l r u) i
 |none=>((K5 l r u).filter (Vy l (K5 l r u))).all λi=>itU l t r u (K5 l r u) i))
theorem QGk{t:It}(i:Nat){A':List Nat}(ho:t.Ok P l N w0 F0 bs0 G0){r:List Nat}{M:(Nat->Nat)->Sl}{B:(Nat->Nat)->List (Nat×Obj)}(hA:t.A=i::A')(hdI:dI l i=t.d i)(hV:∀β,t.V β i=DW (β i)){T:TypeId}{z:List Value}(ht:tI l i=T)(hz:J8 P T=some z)(hO':∀β,t.O β i=some (.cells z.toArray T (0,0)))(hf:QJv l t r i=true)(hkey:(t.A.all λj=>!((m.map (·.1)).contains (t.d j)))=true)(h0:bs0.Sublist bs)(hg0:∀F,G F->G0 F)(hM:∀β,mxU t [i] β=M β)(hB:∀β,cO t [i] β=B β)
  (hk:∀β,KT P l Q (St ⟨w0,F0,bs0,G0⟩) [i] r N (M β++m) w0 F0 (B β++bs) G):KU P l Q (St ⟨w0,F0,bs0,G0⟩) t r N m w0 F0 bs G:=by
 have hO:∀β,t.O β i=some (zI P l i):=λβ=>by rw[hO'];unfold zI;rw[ht,hz];rfl
 have hnd:=ho.nd;rw[hA]at hnd;have hiA:=(List.nodup_cons.1 hnd).1;refine QG1 ho (QIk hkey) h0 hg0 (λu=>u=[]\/u=[i]) (λu hu=>?_) λu hu e β a w ha0 ha hx hw=>?_
 ·have h1:=List.all_eq_true.1 hf u hu;simp only[aW,List.isEmpty_iff,beq_iff_eq,ar,aQ]at h1;rcases h1 with (h1 | h1) | h1
  ·exact .inl (.inl h1)
  ·exact .inl (.inr h1)
  refine .inr ⟨h1.1,?_⟩;have c3:=h1.2;cases hp:Hg l (K5 l r u)with
  |some i=>rw[hp]at c3;exact .inl ⟨i,rfl,c3⟩
  |none=>rw[hp]at c3;exact .inr ⟨rfl,λi hi hrd=>.inl (List.all_eq_true.1 c3 i (List.mem_filter.2 ⟨hi,hrd⟩))⟩
 have s2:JH N (mxU t [i] β) a:=JH.ofMap (a0:=a) ha0 λj hj=>hx j (List.mem_filter.1 hj).1 (by
  have:=(List.mem_filter.1 hj).2;rcases e with rfl | rfl
  ·simp
  simpa using this)
 rw[hM]at s2;have hu2:u∈Wg [i]:=by rcases e with rfl | rfl<;>simp[Wg]
 refine hk β u β a w hu2 (s2.app ha) (λj hj hju=>?_) (hw.perm ?_)
 ·rw[bm]at hj;subst hj;have:=hx j (by rw[hA];simp) hju;rw[hV]at this;rw[hdI];exact⟨ha.size,ha.df,λs v hs=>by
   rw[Vt]at hs;cases e2:af (t.d j) s with
   |false=>rw[e2]at hs;cases hs
   |true =>
    rw[e2]at hs;have:=aB e2;subst this;cases hs;assumption⟩
 rw[<-bS,<-hB];refine List.Perm.append_right _ (List.Perm.of_eq ?_);have e1:cO t [i] β=A'.filterMap λj=>(t.O β j).map λo=>(β j,o):=by
  unfold cO;rw[hA,List.filter_cons,if_neg wz,List.filter_eq_self.2 λj hj=>by simp;exact λe=>hiA (e ▸ hj)]
 rcases e with rfl | rfl
 ·have e2:cO t [] β=(β i,zI P l i)::cO t [i] β:=by
   rw[e1];unfold cO;rw[List.filter_eq_self.2 λj hj=>wz,hA,aM,hO];rfl
  rw[e2];have e3:xP P l [i] [] β=[(β i,zI P l i)]:=rfl;rw[e3];rfl
 have e3:xP P l [i] [i] β=[]:=by
  unfold xP;rw[List.filter_eq_nil_iff.2 (λj hj=>by simpa using hj)];rfl
 rw[e3];rfl
theorem QFl{t:It}{r R:List Nat}(ho:t.Ok P l N w0 F0 bs0 G)(hm:K5 l r t.A=R)(hc:(QAm t).contains t.A=true)(hs:Y8 m t.m0)(h:t.Ok P l N w0 F0 bs0 G->KU P l Q (St ⟨w0,F0,bs0,G⟩) t r N m w0 F0 bs G):JT P l Q ⟨w0,F0,bs0,G⟩ R N m ⟨w0,F0,bs,G⟩:=by
 subst hm;intro _ a w ha hw;refine h ho t.A (λ_=>0) a w (by simpa using hc) (ha.sub hs) ha (λi hi hn=>absurd hi hn) ?_;have:cO t t.A (λ_=>0)=[]:=by
  unfold cO;rw[List.filter_eq_nil_iff.2 (λi hi=>by simpa using hi)];rfl
 rw[this];exact hw
end
end
section
variable{P:Program}{N:Nat}{m:Sl}{S:World->Prop}{ty:TypeId}
theorem QAD{T e:TypeId}{x:Operand}{b sz:Nat}{g:Bool}(hx:ev m x=some (.pointer (some ⟨b,0,none⟩)))(hT:arB P T=some (n,e))(hs:Z1 P e=some (g,sz)):Qt P N m S (.slice T x none none none) ty (.slice (some ⟨b,0,none⟩) n n):=λa w _ _ _ _ ha _=>by
 simp[execOp,ha.ev hx,Instr.sliceAt,Instr.sureAddr,Instr.sliceBounds,Instr.sliceBound,run_underlying (QGx hT),KX hs,Hu]
end
def QIz(i:Nat):List Nat:=bif af i 3 then[2]else bif af i 4 then[3,2]else bif af i 6 then[5]else bif af i 7 then[6,5]else bif af i 8 then[4,7]else[]
def AD(r:Sr):It where
 A:=[20,8,7,6,5,4,3,2,0]
 d:=λi=>bif af i 20 then 9 else 53+i
 dep:=QIz
 V:=λβ i=>bif af i 0 then .slice (some ⟨β 0,0,none⟩) 3 3 else bif af i 2 then .slice (some ⟨β 2,0,none⟩) 4 4 else bif af i 3 then .agg [tx [49],.slice (some ⟨β 2,0,none⟩) 4 4].toArray else bif af i 4 then .slice (some ⟨β 4,0,none⟩) 1 1 else bif af i 5 then .slice (some ⟨β 5,0,none⟩) 4 4 else bif af i 6 then .agg [tx [49],.slice (some ⟨β 5,0,none⟩) 4 4].toArray else bif af i 7 then .slice (some ⟨β 7,0,none⟩) 1 1 else bif af i 8 then .slice (some ⟨β 8,0,none⟩) 3 3 else .pointer (some ⟨β 20,0,none⟩)
 O:=λβ i=>bif af i 0 then some (.cells [tx [120],tx [121],tx [122]].toArray 9 (0,0))else bif af i 2 then some (.cells ([0,1,0,0].map Jn).toArray 3 (0,0))else bif af i 3 then none else bif af i 4 then some (.cells [tx [49],.slice (some ⟨β 2,0,none⟩) 4 4].toArray 54 (0,0))else bif af i 5 then some (.cells ([0,0,1,0].map Jn).toArray 3 (0,0))else bif af i 6 then none else bif af i 7 then some (.cells [tx [49],.slice (some ⟨β 5,0,none⟩) 4 4].toArray 54 (0,0))else bif af i 8 then some (.cells [.slice r.q r.n r.cap,.slice (some ⟨β 4,0,none⟩) 1 1,.slice (some ⟨β 7,0,none⟩) 1 1].toArray 28 (0,0))else some (.cells [.slice none 0 0,.slice none 0 0,.slice none 0 0].toArray 26 (0,0))
 m0:=[(54,.slice r.q r.n r.cap)]
def QFP(r:Sr):∀i∈(AD r).A,∀j∈(AD r).A,(AD r).d i=(AD r).d j->i=j:=by
 show ∀i∈[20,8,7,6,5,4,3,2,0],∀j∈[20,8,7,6,5,4,3,2,0],(bif af i 20 then 9 else 53+i)=(bif af j 20 then 9 else 53+j)->i=j;decide
def QGZ(r:Sr):∀i∈(AD r).A,look (AD r).m0 ((AD r).d i)=none:=by
 intro i hi;simp only[AD,ak,ag,or_false]at hi;rcases hi with rfl | rfl | rfl | rfl | rfl | rfl | rfl | rfl | rfl<;>rfl
theorem QFO(r:Sr):∀i∈(AD r).A,∀j∈(AD r).A,j≠i->j∉(AD r).dep i->∀β b,(AD r).V (ux β j b) i=(AD r).V β i/\(AD r).O (ux β j b) i=(AD r).O β i:=by
 intro i hi j hj;simp only[AD,ak,ag,or_false]at hi hj;rcases hi with rfl | rfl | rfl | rfl | rfl | rfl | rfl | rfl | rfl<;>rcases hj with rfl | rfl | rfl | rfl | rfl | rfl | rfl | rfl | rfl<;>first | exact λh _=>absurd rfl h | exact λ_ _ β b=>⟨rfl,rfl⟩ | exact λ_ h=>(h (by simp only[AD];decide)).elim
def chM(r:Sr)(β:Nat->Nat):Sl:=[(61,.slice (some ⟨β 8,0,none⟩) 3 3),(60,.slice (some ⟨β 7,0,none⟩) 1 1),(59,.agg [tx [49],.slice (some ⟨β 5,0,none⟩) 4 4].toArray),(58,.slice (some ⟨β 5,0,none⟩) 4 4),(57,.slice (some ⟨β 4,0,none⟩) 1 1),(56,.agg [tx [49],.slice (some ⟨β 2,0,none⟩) 4 4].toArray),(55,.slice (some ⟨β 2,0,none⟩) 4 4),(53,.slice (some ⟨β 0,0,none⟩) 3 3)]
def chB(r:Sr)(β:Nat->Nat):List (Nat×Obj):=[(β 8,.cells [.slice r.q r.n r.cap,.slice (some ⟨β 4,0,none⟩) 1 1,.slice (some ⟨β 7,0,none⟩) 1 1].toArray 28 (0,0)),(β 7,.cells [tx [49],.slice (some ⟨β 5,0,none⟩) 4 4].toArray 54 (0,0)),(β 5,.cells ([0,0,1,0].map Jn).toArray 3 (0,0)),(β 4,.cells [tx [49],.slice (some ⟨β 2,0,none⟩) 4 4].toArray 54 (0,0)),(β 2,.cells ([0,1,0,0].map Jn).toArray 3 (0,0)),(β 0,.cells [tx [120],tx [121],tx [122]].toArray 9 (0,0))]
def uv(b53 b55 b57 b58 b60 b61 b71:Nat)(s:List MG)(r:Sr)(c d e:List UInt8):ZR:=⟨⟨some ⟨b53,0,none⟩,3,3⟩,[[120],[121],[122]],⟨some ⟨b61,0,none⟩,3,3⟩,[(r,s),j5 b57 [LN [49] b55 [0,1,0,0]],j5 b60 [LN [49] b58 [0,0,1,0]]],⟨some ⟨b71,0,none⟩,3,3⟩,[(c,c),(d,d),(e,e)]⟩
def QFM{a b:List UInt8}{t:List UInt8×List Int}(h:t∈jW a b):(t.1=a\/t.1=b)/\t.2.length=4:=by
 unfold jW QAr at h;rcases List.mem_append.1 h with h | h
 ·split at h
  ·cases h
  rw[List.mem_singleton.1 h];exact⟨.inr rfl,rfl⟩
 split at h
 ·cases h
 rw[List.mem_singleton.1 h];exact⟨.inl rfl,rfl⟩
def QAq(a b:List UInt8):(jW a b).length<=2:=by
 unfold jW QAr;rw[bw];split<;>split<;>simp
def QAo{b53 b55 b57 b58 b60 b61 b71:Nat}{T1 T2 T3 T4 T5 T6 T7:TypeId}{ts:List MG}{r:Sr}{a b c d e:List UInt8}(h53:F b53=some ([tx [120],tx [121],tx [122]].toArray,T1))(h55:F b55=some (([0,1,0,0].map Jn).toArray,T2))(h57:F b57=some ((Di (LN [49] b55 [0,1,0,0])).toArray,T3))(h58:F b58=some (([0,0,1,0].map Jn).toArray,T4))(h60:F b60=some ((Di (LN [49] b58 [0,0,1,0])).toArray,T5))(h61:F b61=some ([r.v,(j5 b57 [LN [49] b55 [0,1,0,0]]).1.v,(j5 b60 [LN [49] b58 [0,0,1,0]]).1.v].toArray,T6))(h71:F b71=some ([tx c,tx c,tx d,tx d,tx e,tx e].toArray,T7))(hr':Qw F r.q ts.length 2 (ts.flatMap Di))(hn:r.n=ts.length)(hA:∀t∈ts,XD F t.r t.k)(hs:YQ ts=jW a b)(ha:a.length<=1000000)(hb:b.length<=1000000)(hc:c.length<=1000000)(hd:d.length<=1000000)(he:e.length<=1000000):Nw F (uv b53 b55 b57 b58 b60 b61 b71 ts r c d e) [[120],[121],[122]] [jW a b,[([49],[0,1,0,0])],[([49],[0,0,1,0])]] [(c,c),(d,d),(e,e)]:=by
 have hr:Qw F r.q r.n 2 (ts.flatMap Di):=by rw[hn];exact hr'
 have h2:=QAq a b;rw[<-hs,uw]at h2;refine⟨⟨Qw.of h53 rfl,Qw.of h61 rfl,λx hx=>?_,Qw.of h71 rfl,rfl,rfl,rfl⟩,⟨(by show 3<=1000000;decide),ai _,λs hs=>?_,(by show 3<=1000000;decide),λx hx=>?_,(by show 3<=1000000;decide),λs hs=>?_⟩,rfl,?_,rfl⟩
 ·simp only[uv,ak,ag,or_false]at hx;rcases hx with rfl | rfl | rfl
  ·exact⟨hr,hA⟩
  ·exact⟨Qw.of h57 rfl,λt ht=>by rw[List.mem_singleton.1 ht];exact Kc (k:=[0,1,0,0]) h55⟩
  exact⟨Qw.of h60 rfl,λt ht=>by rw[List.mem_singleton.1 ht];exact Kc (k:=[0,0,1,0]) h58⟩
 ·simp only[uv,ak,ag,or_false]at hs;rcases hs with rfl | rfl | rfl<;>decide
 ·simp only[uv,ak,ag,or_false]at hx;rcases hx with rfl | rfl | rfl
  ·refine⟨hn.symm,λt ht=>?_,by show ts.length<=_;omega⟩;have h4:(t.f,t.k)∈jW a b:=by rw[<-hs];exact bQ ht
   have h5:=QFM h4;have h6:=(hA t ht).2.1;have h7:=h5.2;dsimp only at h7;refine⟨?_,O⟩;rcases h5.1 with g | g
   ·dsimp only at g;rw[g];exact ha
   dsimp only at g;rw[g];exact hb
  ·exact⟨rfl,λt ht=>by rw[List.mem_singleton.1 ht];exact⟨(by show 1<=1000000;decide),(by show 4<=1000000;decide)⟩,(by show 1<=1000000;decide)⟩
  exact⟨rfl,λt ht=>by rw[List.mem_singleton.1 ht];exact⟨(by show 1<=1000000;decide),(by show 4<=1000000;decide)⟩,(by show 1<=1000000;decide)⟩
 ·simp only[uv,ak,ag,or_false]at hs;rcases hs with rfl | rfl | rfl
  ·exact⟨hc,hc⟩
  ·exact⟨hd,hd⟩
  exact⟨he,he⟩
 show[YQ ts,_,_]=_;rw[hs];rfl
set_option maxRecDepth 20000 in
theorem QFH{a b c d e:List UInt8}{k1 k2:Nat}(hF:Fits F w)(hGl:JC F)(hk1:k1<256)(hk2:k2<256):Qe prog 4 [.agg #[tx a,tx b,tx c,tx d,tx e],.int .u8 (k1:Int),.int .u8 (k2:Int)] w F (.bool true):=by
 obtain⟨n,hnk⟩:∃n:Nat,n=1+k1%4:=⟨_,rfl⟩;obtain⟨o,hok⟩:∃o:Nat,o=1+k2%4:=⟨_,rfl⟩;refine QT.intro (G:=λF=>JC F) func4 rfl wy rfl rfl hF (λF' hF'=>hGl.le hF')<|QKO<|Qu rfl (vs:=[_,_,_,_,_]) rfl λb3=>Ku (b:=b3) .here<|wQ rfl<|QG<|QKO<|QA (QAD rfl D7 JR)<|QI rfl (λ_ _ f k=>cy (l:=[a,b,c,d,e]) (m:=5) (d:=4) f (Qw.of (n:=5) (sz:=1) (cs:=[a,b,c,d,e].map tx) k.2 rfl) rfl wu wu) λ_=>QA (XJ rfl)<|QE<|QC ?_
 refine QO I (λhc2=>?_) λhc2=>?_
 ·refine QKO<|QI I (λ_ _ f k=>xR f k.1.1) λ_=>wQ I<|QW ?_
  exact QKx I I (rfl) w8
 have hN:[a,b,c,d,e].all (λs=>Uy s 4)=true:=by
  have h1:=hc2;simp only[bz,ar]at h1;exact h1.2
 simp only[List.all_cons,List.all_nil,bY,ar]at hN;obtain⟨hfa,hfb,hfc,hfd,hfe⟩:=hN;have hza:JQ (Qh a)<=14:=Cn (d:=4) hfa wu;have hzb:JQ (Qh b)<=14:=Cn (d:=4) hfb wu;have hzc:JQ (Qh c)<=14:=Cn (d:=4) hfc wu;have hzd:JQ (Qh d)<=14:=Cn (d:=4) hfd wu;have hze:JQ (Qh e)<=14:=Cn (d:=4) hfe wu;have hla:a.length<=1000000:=wk (IN (d:=4) hfa);have hlb:b.length<=1000000:=wk (IN (d:=4) hfb);have hlc:c.length<=1000000:=wk (IN (d:=4) hfc);have hld:d.length<=1000000:=wk (IN (d:=4) hfd);have hle:e.length<=1000000:=wk (IN (d:=4) hfe);have hca:=Cm hfa;have hcb:=Cm hfb;have hcc:=Cm hfc;have hcd:=Cm hfd;have hce:=Cm hfe;have hn1:1<=n:=O;have hn4:n<=4:=O;have ho1:1<=o:=O;have ho4:o<=4:=O;obtain⟨tb,hT⟩:=QHy (a:=Qh a) (b:=Qh b) (c:=Qh c) (d:=Qh d) (e:=Qh e) hza hzb hzc hzd hze hn1 hn4 ho1 ho4;have hE4:=jM hn1 hn4;have hEs:=hE4.es hn4;have hEsz:∀r∈E4 n,JQ r<=1800:=λr hr=>by
  obtain⟨j,hj,rfl⟩:=ay hr;rw[<-Ja hj];exact hEs.sz j hj
 refine QKr 5 I<|QA (qj (n:=(k1:Int)) I QG4 k_3 O)<|QA (Hp I I O wu) ?_
 rw[show((k1:Int)%4)=((k1%4:Nat):Int)from by omega];refine QA (Qv I I O) ?_;rw[show((1:Int)+((k1%4:Nat):Int))=((n:Nat):Int)from by omega];refine QKq 8 I ?_;refine SV (ι:=RtJ (QAr b)) [(2,_),(3,_),(7,_)] (λx=>[(8,x.v)]) (λx=>x.ob) (λx F=>∀t∈x.ts,XD F t.r t.k) wU ?_ ?_
 ·refine QKO<|QA (Ke (i:=1) rfl rfl D7 JR wu)<|QA (JA (n:=1) ((0)*5+1) (λF h9=>(Qw.of (n:=1) (sz:=5) h9.1.2 I)) O rfl JR I)<|QA (L1 I I)<|QE<|QC ?_
  refine QO I (λhc2=>?_) λhc2=>?_
  ·have hnb:¬b=[48]:=bne_iff_ne.1 hc2;refine wA 2 I<|QA (Ke (i:=1) rfl rfl D7 JR wu)<|QA (JA (n:=1) ((0)*5+1) (λF h9=>(Qw.of (n:=1) (sz:=5) h9.1.2 I)) O rfl JR I)<|Qb I (Qz JB) JO Pp I I λb39=>QA (Qx I ER Gi (wP I I I))<|Qb I (Qz VR) Kv Gi I I λb41=>?_
   refine Ys (bs1:=[]) (ob:=[]) (n:=0) (k:=1) (sz:=2) (news:=(Di (LN b b39 [1,0,0,0]))) I I VR Kv Gi I QGu .nil (Src.row (off:=0) tB (λj q hq=>by rw[aV];rw[aY];exact hq) rfl) O O (λv hv=>by simp only[Di,ak,ag,or_false]at hv;rcases hv with rfl | rfl<;>rfl) (λv42 ob42 hr42=>?_);refine wB 2 I ?_;exact ZQ (⟨v42,ob42,[LN b b39 [1,0,0,0]],by unfold QAr;rw[if_neg hnb];rfl,hr42⟩) wV QJZ λF h9=>⟨⟨⟨h9.1.1.1.1,h9.1.1.1.2⟩,trivial⟩,(λt ht=>by rw[List.mem_singleton.1 ht];exact Kc (k:=[1,0,0,0]) h9.1.2)⟩
  have hnb:b=[48]:=bne_eq_false_iff_eq.1 hc2;refine QN ?_;exact ZQ (⟨.slice none 0 0,[],[],by unfold QAr;rw[if_pos hnb];rfl,.nil⟩) wV QJZ λF h9=>⟨⟨⟨h9.1.1,h9.1.2⟩,trivial⟩,(λt ht=>by cases ht)⟩
 intro x;simp only[aj,ah];have hxl:x.ts.length<=1:=by rw[<-uw,x.e];unfold QAr;split<;>simp
 refine SV (ι:=RtJ (jW a b)) [(2,_),(3,_),(7,_)] (λx2=>[(8,x2.v)]) (λx2=>x2.ob) (λx2 F=>∀t∈x2.ts,XD F t.r t.k) wU ?_ ?_
 ·refine QKO<|QA (Ke (i:=0) rfl rfl D7 JR wu)<|QA (JA (n:=1) ((0)*5+0) (λF h9=>(Qw.of (n:=1) (sz:=5) h9.1.1.2 I)) O rfl JR I)<|QA (L1 I I)<|QE<|QC ?_
  refine QO I (λhc2=>?_) λhc2=>?_
  ·have hna:¬a=[48]:=bne_iff_ne.1 hc2;refine wA 2 I<|QA (Ke (i:=0) rfl rfl D7 JR wu)<|QA (JA (n:=1) ((0)*5+0) (λF h9=>(Qw.of (n:=1) (sz:=5) h9.1.1.2 I)) O rfl JR I)<|Qb I (Qz JB) JO Pp I I λb49=>QA (Qx I ER Gi (wP I I I))<|Qb I (Qz VR) Kv Gi I I λb51=>?_
   refine Ys (bs1:=[]) (ob:=x.ob) (n:=x.ts.length) (k:=1) (sz:=2) (news:=(Di (LN a b49 [0,0,0,0]))) I I VR Kv Gi I QGu x.hr (Src.row (off:=0) tB (λj q hq=>by rw[aV];rw[aY];exact hq) rfl) O O (λv hv=>by simp only[Di,ak,ag,or_false]at hv;rcases hv with rfl | rfl<;>rfl) (λv52 ob52 hr52=>?_);refine wB 2 I ?_;exact ZQ (⟨v52,ob52,x.ts++[LN a b49 [0,0,0,0]],by rw[QFX,x.e];unfold jW;rw[if_neg hna];rfl,by rw[List.flatMap_append,bw];exact hr52⟩) wV QJZ λF h9=>⟨⟨⟨⟨h9.1.1.1.1.1,h9.1.1.1.1.2⟩,trivial⟩,h9.1.1.2⟩,(λt ht=>(List.mem_append.1 ht).elim (λg=>h9.1.1.2 t g) λg=>by rw[List.mem_singleton.1 g];exact Kc (k:=[0,0,0,0]) h9.1.2)⟩
  have hna:a=[48]:=bne_eq_false_iff_eq.1 hc2;refine QN ?_;exact ZQ (⟨x.v,x.ob,x.ts,by rw[x.e];unfold jW;rw[if_pos hna,bD],x.hr⟩) wV QJZ λF h9=>⟨⟨⟨⟨h9.1.1.1,h9.1.1.2⟩,trivial⟩,h9.2⟩,h9.2⟩
 intro x2;simp only[aj,ah];have hxl2:x2.ts.length<=2:=by rw[<-uw,x2.e];exact QAq a b
 refine QG ?_;obtain⟨r8,hv8,hrn8,hrc8,hfix8⟩:=Q7.fix (w0:=w) (F0:=F) (bs1:=[]) (G:=_) x2.hr;refine jy hfix8 ?_;rw[hv8];dsimp only[Sr.v];refine KR (r:=[0,1,2,3,4,5,6,7,8,9,10,11,12,13,14,15,16,17,18,19,20,21]) QJZ mixed wm rfl<|Jk 1 wm rfl rfl<|QK (QD I)<|Q9<|Jk 9 wm rfl rfl<|QK (Ke (i:=2) rfl rfl D7 JR wu)<|Q9<|Jk 10 wm rfl rfl<|QK (JA (n:=1) ((0)*5+2) (λF h9=>(Qw.of (n:=1) (sz:=5) h9.1.1.1.1.2 I)) O rfl JR I)<|Q9<|Jk 12 wm rfl rfl<|QK (Ke (i:=3) rfl rfl D7 JR wu)<|Q9<|Jk 13 wm rfl rfl<|QK (JA (n:=1) ((0)*5+3) (λF h9=>(Qw.of (n:=1) (sz:=5) h9.1.1.1.1.2 I)) O rfl JR I)<|Q9<|Jk 15 wm rfl rfl<|QK (Ke (i:=4) rfl rfl D7 JR wu)<|Q9<|Jk 16 wm rfl rfl<|QK (JA (n:=1) ((0)*5+4) (λF h9=>(Qw.of (n:=1) (sz:=5) h9.1.1.1.1.2 I)) O rfl JR I)<|Q9 ?_
 refine QFl (t:=AD r8) (r:=[11,14,17,18,19,21]) ⟨by show[20,8,7,6,5,4,3,2,0].Nodup;decide,QFP r8,QGZ r8,QFO r8,λi hi=>?_⟩ wm wm wS λhIt=>?_
 ·simp only[AD,ak,ag,or_false]at hi;rcases hi with rfl | rfl | rfl | rfl | rfl | rfl | rfl | rfl | rfl
  ·refine⟨_,rfl,λβ mX bsX G h0 hg K hK=>?_⟩;exact QFo LZ λb=>Hw (hK b)
  ·refine⟨_,rfl,λβ mX bsX G h0 hg K hK=>?_⟩;exact GB I (Qz DC) D4 QDR I I λb=>Hw (hK b)
  ·refine⟨_,rfl,λβ mX bsX G h0 hg K hK=>?_⟩;exact GB I (Qz VR) Kv Gi I I λb=>Hw (hK b)
  ·refine⟨_,rfl,λβ mX bsX G h0 hg K hK=>?_⟩;exact QK (Qx I ER Gi (wP I I I)) (Hw (hK 0))
  ·refine⟨_,rfl,λβ mX bsX G h0 hg K hK=>?_⟩;exact GB I (Qz JB) JO Pp I I λb=>Hw (hK b)
  ·refine⟨_,rfl,λβ mX bsX G h0 hg K hK=>?_⟩;exact GB I (Qz VR) Kv Gi I I λb=>Hw (hK b)
  ·refine⟨_,rfl,λβ mX bsX G h0 hg K hK=>?_⟩;exact QK (Qx I ER Gi (wP I I I)) (Hw (hK 0))
  ·refine⟨_,rfl,λβ mX bsX G h0 hg K hK=>?_⟩;exact GB I (Qz JB) JO Pp I I λb=>Hw (hK b)
  refine⟨_,rfl,λβ mX bsX G h0 hg K hK=>?_⟩;exact GB I (Qz Kx) Dk z_9 I I λb=>Hw (hK b)
 refine cF hIt 11 wm wy QJZ w9 rfl rfl rfl (λ_=>rfl) (λ_ _ f k=>Ks (s:=c) f) (λ_=>cF hIt 14 wm wy QJZ tA rfl rfl rfl (λ_=>rfl) (λ_ _ f k=>Ks (s:=d) f) λ_=>cF hIt 17 wm wy QJZ (λ_ h=>h.1.1) rfl rfl rfl (λ_=>rfl) (λ_ _ f k=>Ks (s:=e) f) λ_=>QJB hIt 18 wm wy QJZ (λ_ h=>h.1.1.1) rfl rfl rfl (λ_=>rfl) (Qz XW) J1 Xh I I λb71=>QGk 20 (M:=chM r8) (B:=chB r8) hIt rfl wm (λ_=>rfl) (T:=26) wm LZ (λ_=>rfl) wm wy tD (λ_ h=>h.1.1.1) (λ_=>rfl) (λ_=>rfl) λβ=>?_);unfold chM chB;generalize β 0=b53;generalize β 2=b55;generalize β 4=b57;generalize β 5=b58;generalize β 7=b60;generalize β 8=b61;simp only[aj,ah];refine C7 19 wm wm wy tD (λ_ h=>h.1.1.1) rfl wy (λ_=>Qx I gm LZ (.cons (vs:=[_]) I I I .h1 (.cons (vs:=[_]) I I I (.skip .h1) (.cons (vs:=[_]) I I I (.skip (.skip .h1)) .nil))))<|K1 20 (d:=9) (T:=26) wm wm wy tD (λ_ h=>h.1.1.1) wm wm LZ λb9=>Zl (vs:=[_,_,_]) 21 wm wm wy tD (λ_ h=>h.1.1.1) rfl rfl (λ_=>rfl) (λ_=>rfl) rfl XA I .here (.cons _ (.cons _ (.cons _ (.cons _ (.cons _ (.cons _ (.cons _ QJZ))))))) .h3 wU ?_
 refine Vd ?_ wm;refine QKs 3 I<|Vv (b:=b71) (.there (.there (.there (.there (.there (.there (.there .here)))))))<|Vv (b:=b61) .u1<|Vv (b:=b60) .u1<|Vv (b:=b58) .u1<|Vv (b:=b57) .u1<|Vv (b:=b55) .u1<|Vv (b:=b53) .u1<|QB<|QA (wI I XA .here)<|QI I (λw F hF ⟨⟨⟨⟨⟨⟨⟨⟨⟨⟨⟨⟨⟨⟨⟨hGl,hz3⟩,_⟩,hx⟩,hx2⟩,hrow8⟩,_⟩,_⟩,_⟩,hz71⟩,hz61⟩,hz60⟩,hz58⟩,hz57⟩,hz55⟩,hz53⟩=>QHF (y:=(uv b53 b55 b57 b58 b60 b61 b71 x2.ts r8 c d e)) hF hGl (QAo hz53 hz55 hz57 hz58 hz60 hz61 hz71 hrow8 hrn8 hx2 x2.e hla hlb hlc hld hle).r (QAo hz53 hz55 hz57 hz58 hz60 hz61 hz71 hrow8 hrn8 hx2 x2.e hla hlb hlc hld hle).t) λ_=>QKq 3 I ?_
 refine QO I (λhc2=>?_) λhc2=>?_
 ·refine QKO<|QI I (λ_ _ f k=>xR f k.1.1.1.1.1.1.1.1.1.1.1.1.1.1.1.1) λ_=>wQ I<|QW ?_
  exact QKx I I (rfl) w8
 have hye:(uv b53 b55 b57 b58 b60 b61 b71 x2.ts r8 c d e).e=0:=bne_eq_false_iff_eq.1 hc2;refine QKr 5 I<|QI I (λ_ _ f k=>QEV (num:=((n:Nat):Int)) (den:=4) f O wu wu) λ_=>QJD I<|QI I (λ_ _ f k=>QGK f k.1.1.1.1.1.1.1.1.1.1.1.1.1.1.1.1.1 hn1 hn4) λc81=>JN _ (λ_ _ f k=>k.2.2) λn81=>QKq 9 I<|QA (wI I XA .here)<|wB 2 I<|QA (qj (n:=(k2:Int)) I QG4 k_3 O)<|QA (Hp I I O wu) ?_
 rw[show((k2:Int)%4)=((k2%4:Nat):Int)from by omega];refine QA (Qv I I O) ?_;rw[show((1:Int)+((k2%4:Nat):Int))=((o:Nat):Int)from by omega];refine QI rfl (λw F hF ⟨⟨⟨⟨⟨⟨⟨⟨⟨⟨⟨⟨⟨⟨⟨⟨⟨⟨hGl,hz3⟩,_⟩,hx⟩,hx2⟩,hrow8⟩,_⟩,_⟩,_⟩,hz71⟩,hz61⟩,hz60⟩,hz58⟩,hz57⟩,hz55⟩,hz53⟩,_⟩,_⟩,h81⟩=>QFL (y:=(uv b53 b55 b57 b58 b60 b61 b71 x2.ts r8 c d e)) (n:=n) (o:=o) (tb:=tb) (q:=c81.q) n81 hca hcb hF hGl (QAo hz53 hz55 hz57 hz58 hz60 hz61 hz71 hrow8 hrn8 hx2 x2.e hla hlb hlc hld hle) hye h81.1 hn1 hn4 ho1 ho4 hT) (λc91=>JN _ (λw F hF ⟨⟨⟨⟨⟨⟨⟨⟨⟨⟨⟨⟨⟨⟨⟨⟨⟨⟨⟨hGl,hz3⟩,_⟩,hx⟩,hx2⟩,hrow8⟩,_⟩,_⟩,_⟩,hz71⟩,hz61⟩,hz60⟩,hz58⟩,hz57⟩,hz55⟩,hz53⟩,_⟩,_⟩,h81⟩,h91⟩=>And.intro h91.a.len h91.d) λn91=>?_);have n92:c91.1.n=n:=by
  have h1:=congrArg ep n91.2;rw[ax]at h1;have h2:(P2 tb).length=tb.length:=by simp[P2]
  have h3:=hT.g.len;have h4:=E9 n;have h5:=n91.1;omega
 refine QKq 11 I<|QA (QU (v:=.bool false) rfl rfl (QBs _))<|wB 4 I<|QA (QU (v:=.bool false) rfl rfl (QBs _))<|wB 5 I<|QA (Qg I Z6)<|wB 2 I ?_
 refine QL I I<|QA (QU (v:=.bool false) rfl rfl (by rw[n81];exact QBs _))<|wB 5 I<|QA (Qg I DB)<|wB 3 I<|QA (QU (v:=.bool false) rfl rfl (by rw[n92];exact QBs _))<|wB 5 I<|QI I (λ_ _ f k=>QF6 (rs:=E4 n) f k.1.2.1 ((E9 _).trans n81.symm) (λr hr=>hEsz r hr) O) λ_=>QL I I<|QA (QU (v:=.bool false) rfl rfl (QBs _))<|QKq 3 I<|YV I<|QN ?_
 refine QKs 8 I<|XM (ι:=QI7 n) [(3,_),(7,_),(9,_),(10,_),(12,_)] (λi=>[(14,.int .i64 ((i.i:Nat):Int))]) (λi=>n-i.i) (⟨0,bh _⟩) wW wS λi=>?_
 simp only[aj,ah];have hi:=i.le;refine wA 8 I ?_;refine QO I (λhc2=>?_) λhc2=>?_
 ·have hlt:i.i<n:=wk<|QKc hc2
  have hez:JQ (el (E4 n) i.i)<=100:=aE (hE4.a i.i hlt).2.1 wu;refine QKr 5 I<|JK QJZ mixed wm<|QK (QD I)<|QK (QD I)<|QK (Q6 (n:=c81.n) i.i (λF h9=>h9.1.1.2.1) rfl rfl Z6 JR O)<|QK (JA (n:=c81.n) ((i.i)*1) (λF h9=>h9.1.1.2.1) O rfl JR (Xa (f:=QDU) (l:=(E4 n)) (by rw[E9];omega)))<|QK (QD I)<|QK (QD I)<|QK (Q6 (n:=c81.n) i.i (λF h9=>h9.1.1.2.1) rfl rfl Z6 JR O)<|QK (JA (n:=c81.n) ((i.i)*1) (λF h9=>h9.1.1.2.1) O rfl JR (Xa (f:=QDU) (l:=(E4 n)) (by rw[E9];omega)))<|QM I (λ_ _ f k=>QEU (u:=el (E4 n) i.i) (s:=[49,47,57]) f wu O) λ_=>?_
  rw[show Qh [49,47,57]=ae 1 9 by decide +kernel];refine Qo I (Qz Z6) JR Ow I I (λb131=>?_) (λw h=>h.imp (.cons_cons _ QJZ) tA);refine QK (Qg I Z6)<|QK (QD I)<|Q5<|QC<|QV<|XM (ι:=QI7 2) [(3,_),(7,_),(9,_),(10,_),(12,_),(14,_),(131,_),(132,_)] (λi2=>[(133,.int .i64 ((i2.i:Nat):Int))]) (λi2=>2-i2.i) (⟨0,bh _⟩) wZ wS λi2=>?_
  simp only[aj,ah];have hi2:=i2.le;refine wA 6 I ?_;refine QO I (λhc2=>?_) λhc2=>?_
  ·have hlt2:i2.i<2:=wk<|QKc hc2
   obtain⟨tm,htm⟩:∃tm,tm=el [el (E4 n) i.i,el (E4 n) i.i-ae 1 9] i2.i:=⟨_,rfl⟩;obtain⟨bx,hbx⟩:∃bx,bx=el [(el tb i.i).2.2,(el tb i.i).2.1] i2.i:=⟨_,rfl⟩;have hvl:=QIt hn1 hn4 hT hlt hlt2;rw[<-htm,<-hbx]at hvl;obtain⟨hin,hbl,hzt,hpos⟩:=hvl;obtain⟨q1,q2,q3⟩:=QHx (Qh a) (Qh b) (Qh c) (Qh d) (Qh e) tm;unfold C1 at hin;rw[<-q1,<-q2,<-q3]at hin;have s2:=Xp tm tm;have s3:=Xp tm (tm*tm);have s4:=Xp (tm*tm) (tm*tm);have u0:=(by decide +kernel:JQ (Qh [49,47,50])<=3);have u1:=(by decide +kernel:JQ (Qh [49,47,54])<=4);have u2:=(by decide +kernel:JQ (Qh [49,47,50,52])<=6);have u3:=Xp (Qh [49,47,50]) (tm*tm);have u4:=Xp (Qh [49,47,54]) (tm*(tm*tm));have u5:=Xp (Qh [49,47,50,52]) (tm*tm*(tm*tm));have u6:=Xp (Qh a) tm;have u7:=Xp (Qh c) tm;have u8:=Xp (Qh d) tm;have u9:=Xp (Qh b) (Qh [49,47,50]*(tm*tm));have u10:=Xp (Qh a) (Qh [49,47,50]*(tm*tm));have u11:=Xp (Qh c) (Qh [49,47,50]*(tm*tm));have u12:=Xp (Qh b) (Qh [49,47,54]*(tm*(tm*tm)));have u13:=Xp (Qh a) (Qh [49,47,54]*(tm*(tm*tm)));have u14:=Xp (Qh b) (Qh [49,47,50,52]*(tm*tm*(tm*tm)));have u15:=YC (Qh a*tm) (Qh b*(Qh [49,47,50]*(tm*tm)));have u16:=YC (Qh c) ((Qh a*tm)+(Qh b*(Qh [49,47,50]*(tm*tm))));have u17:=YC (Qh a*(Qh [49,47,50]*(tm*tm))) (Qh b*(Qh [49,47,54]*(tm*(tm*tm))));have u18:=YC (Qh c*tm) ((Qh a*(Qh [49,47,50]*(tm*tm)))+(Qh b*(Qh [49,47,54]*(tm*(tm*tm)))));have u19:=YC (Qh d) ((Qh c*tm)+((Qh a*(Qh [49,47,50]*(tm*tm)))+(Qh b*(Qh [49,47,54]*(tm*(tm*tm))))));have u20:=YC (Qh a*(Qh [49,47,54]*(tm*(tm*tm)))) (Qh b*(Qh [49,47,50,52]*(tm*tm*(tm*tm))));have u21:=YC (Qh c*(Qh [49,47,50]*(tm*tm))) ((Qh a*(Qh [49,47,54]*(tm*(tm*tm))))+(Qh b*(Qh [49,47,50,52]*(tm*tm*(tm*tm)))));have u22:=YC (Qh d*tm) ((Qh c*(Qh [49,47,50]*(tm*tm)))+((Qh a*(Qh [49,47,54]*(tm*(tm*tm))))+(Qh b*(Qh [49,47,50,52]*(tm*tm*(tm*tm))))));have u23:=YC (Qh e) ((Qh d*tm)+((Qh c*(Qh [49,47,50]*(tm*tm)))+((Qh a*(Qh [49,47,54]*(tm*(tm*tm))))+(Qh b*(Qh [49,47,50,52]*(tm*tm*(tm*tm)))))));refine QKr 6 I<|QA (Q6 (n:=2) (i2.i) (λF h9=>(Qw.of (n:=2) (sz:=1) h9.2 I)) I I Z6 JR O)<|QA (JA (n:=2) ((i2.i)*1) (λF h9=>(Qw.of (n:=2) (sz:=1) h9.2 I)) O rfl JR (show _=some (tx (Jh tm))from by rw[htm];exact Xa (f:=QDU) (l:=[el (E4 n) i.i,el (E4 n) i.i-ae 1 9]) (by show _<2;omega)))<|QKq 5 I<|QA (wI I XA .here)<|wB 2 I<|QI I (λw F hF ⟨⟨⟨⟨⟨⟨⟨⟨⟨⟨⟨⟨⟨⟨⟨⟨⟨⟨⟨⟨⟨⟨hGl,hz3⟩,_⟩,hx⟩,hx2⟩,hrow8⟩,_⟩,_⟩,_⟩,hz71⟩,hz61⟩,hz60⟩,hz58⟩,hz57⟩,hz55⟩,hz53⟩,_⟩,_⟩,h81⟩,h91⟩,_⟩,_⟩,hs131⟩=>QH8 (y:=(uv b53 b55 b57 b58 b60 b61 b71 x2.ts r8 c d e)) (c:=c91) (T:=tb) (es:=E4 n) (m:=3) (t:=tm) (V:=bx) hF hGl (QAo hz53 hz55 hz57 hz58 hz60 hz61 hz71 hrow8 hrn8 hx2 x2.e hla hlb hlc hld hle).r (QAo hz53 hz55 hz57 hz58 hz60 hz61 hz71 hrow8 hrn8 hx2 x2.e hla hlb hlc hld hle).t hye rfl wu h91 hEs hT.g O hpos (by rw[htm,hbx];exact QIv hn1 hn4 hT h91 hlt hlt2)) λc141=>JN _ (λ_ _ f k=>k.2.len) λn141=>?_
   have n142:c141.n=3:=by rw[<-n141,hbl.len]
   refine QKq 11 I<|QA (QU (v:=.bool false) rfl rfl (QBs _))<|wB 4 I<|QI I (λ_ _ f k=>dt (n:=3) (l:=Nz bx) f k.2.Oh (dN n141 (by rw[<-n141,hbl.len];decide) hbl.sz)) λ_=>?_
   rw[vM hbl.len hbl.sz hbl.ord];refine QL I I<|QA (QU (v:=.bool false) rfl rfl (QBs _))<|QKq 3 I<|YV I<|QKr 6 I<|QI I (λ_ _ f k=>Lt (x:=tm) (y:=tm) f O O) λ_=>wB 3 I<|QI I (λ_ _ f k=>Lt (x:=tm) (y:=tm) f O O) λ_=>QI I (λ_ _ f k=>Lt (x:=tm) (y:=(tm*tm)) f O O) λ_=>wB 2 I<|QI I (λ_ _ f k=>Lt (x:=tm) (y:=tm) f O O) λ_=>wB 2 I<|QI I (λ_ _ f k=>Lt (x:=tm) (y:=tm) f O O) λ_=>QI I (λ_ _ f k=>Lt (x:=(tm*tm)) (y:=(tm*tm)) f O O) λ_=>?_
   refine QKq 6 I<|JK QJZ mixed wm<|QK (Ke (i:=2) rfl rfl D7 JR wu)<|QK (JA (n:=1) ((0)*5+2) (λF h9=>(Qw.of (n:=1) (sz:=5) h9.1.1.1.1.1.1.1.1.1.1.1.1.1.1.1.1.1.1.1.1.1.1.1.1.1.1.1.1.1.2 I)) O rfl JR I)<|QK (Ke (i:=0) rfl rfl D7 JR wu)<|QK (JA (n:=1) ((0)*5+0) (λF h9=>(Qw.of (n:=1) (sz:=5) h9.1.1.1.1.1.1.1.1.1.1.1.1.1.1.1.1.1.1.1.1.1.1.1.1.1.1.1.1.1.2 I)) O rfl JR I)<|QK (QD I)<|QM I (λ_ _ f k=>WV (s:=a) (y:=tm) f hca O) λ_=>QK (Ke (i:=1) rfl rfl D7 JR wu)<|QK (JA (n:=1) ((0)*5+1) (λF h9=>(Qw.of (n:=1) (sz:=5) h9.1.1.1.1.1.1.1.1.1.1.1.1.1.1.1.1.1.1.1.1.1.1.1.1.1.1.1.1.1.2 I)) O rfl JR I)<|QK (QD I)<|QM I (λ_ _ f k=>WV (s:=[49,47,50]) (y:=(tm*tm)) f wu O) λ_=>QM I (λ_ _ f k=>WV (s:=b) (y:=(Qh [49,47,50]*(tm*tm))) f hcb O) λ_=>QM I (λ_ _ f k=>FP (x:=(Qh a*tm)) (y:=(Qh b*(Qh [49,47,50]*(tm*tm)))) f O O) λ_=>QM I (λ_ _ f k=>dz (s:=c) (y:=((Qh a*tm)+(Qh b*(Qh [49,47,50]*(tm*tm))))) f hcc O) λ_=>QK (QF I)<|Q5<|QC<|QG<|JK QJZ mixed wm ?_
   refine QK (Ke (i:=3) rfl rfl D7 JR wu)<|QK (JA (n:=1) ((0)*5+3) (λF h9=>(Qw.of (n:=1) (sz:=5) h9.1.1.1.1.1.1.1.1.1.1.1.1.1.1.1.1.1.1.1.1.1.1.1.1.1.1.1.1.1.1.1.1.1.1.2 I)) O rfl JR I)<|QK (Ke (i:=2) rfl rfl D7 JR wu)<|QK (JA (n:=1) ((0)*5+2) (λF h9=>(Qw.of (n:=1) (sz:=5) h9.1.1.1.1.1.1.1.1.1.1.1.1.1.1.1.1.1.1.1.1.1.1.1.1.1.1.1.1.1.1.1.1.1.1.2 I)) O rfl JR I)<|QK (QD I)<|QM I (λ_ _ f k=>WV (s:=c) (y:=tm) f hcc O) λ_=>QK (Ke (i:=0) rfl rfl D7 JR wu)<|QK (JA (n:=1) ((0)*5+0) (λF h9=>(Qw.of (n:=1) (sz:=5) h9.1.1.1.1.1.1.1.1.1.1.1.1.1.1.1.1.1.1.1.1.1.1.1.1.1.1.1.1.1.1.1.1.1.1.2 I)) O rfl JR I)<|QK (QD I)<|QM I (λ_ _ f k=>WV (s:=[49,47,50]) (y:=(tm*tm)) f wu O) λ_=>QM I (λ_ _ f k=>WV (s:=a) (y:=(Qh [49,47,50]*(tm*tm))) f hca O) λ_=>QK (Ke (i:=1) rfl rfl D7 JR wu)<|QK (JA (n:=1) ((0)*5+1) (λF h9=>(Qw.of (n:=1) (sz:=5) h9.1.1.1.1.1.1.1.1.1.1.1.1.1.1.1.1.1.1.1.1.1.1.1.1.1.1.1.1.1.1.1.1.1.1.2 I)) O rfl JR I)<|QK (QD I)<|QM I (λ_ _ f k=>WV (s:=[49,47,54]) (y:=(tm*(tm*tm))) f wu O) λ_=>QM I (λ_ _ f k=>WV (s:=b) (y:=(Qh [49,47,54]*(tm*(tm*tm)))) f hcb O) λ_=>QM I (λ_ _ f k=>FP (x:=(Qh a*(Qh [49,47,50]*(tm*tm)))) (y:=(Qh b*(Qh [49,47,54]*(tm*(tm*tm))))) f O O) λ_=>QM I (λ_ _ f k=>FP (x:=(Qh c*tm)) (y:=((Qh a*(Qh [49,47,50]*(tm*tm)))+(Qh b*(Qh [49,47,54]*(tm*(tm*tm)))))) f O O) λ_=>QM I (λ_ _ f k=>dz (s:=d) (y:=((Qh c*tm)+((Qh a*(Qh [49,47,50]*(tm*tm)))+(Qh b*(Qh [49,47,54]*(tm*(tm*tm))))))) f hcd O) λ_=>QK (QF I)<|Q5<|QC<|QG<|JK QJZ mixed wm<|QK (Ke (i:=4) rfl rfl D7 JR wu) ?_
   refine QK (JA (n:=1) ((0)*5+4) (λF h9=>(Qw.of (n:=1) (sz:=5) h9.1.1.1.1.1.1.1.1.1.1.1.1.1.1.1.1.1.1.1.1.1.1.1.1.1.1.1.1.1.1.1.1.1.1.1.1.1.1.1.1.1.1.2 I)) O rfl JR I)<|QK (Ke (i:=3) rfl rfl D7 JR wu)<|QK (JA (n:=1) ((0)*5+3) (λF h9=>(Qw.of (n:=1) (sz:=5) h9.1.1.1.1.1.1.1.1.1.1.1.1.1.1.1.1.1.1.1.1.1.1.1.1.1.1.1.1.1.1.1.1.1.1.1.1.1.1.1.1.1.1.2 I)) O rfl JR I)<|QK (QD I)<|QM I (λ_ _ f k=>WV (s:=d) (y:=tm) f hcd O) λ_=>QK (Ke (i:=2) rfl rfl D7 JR wu)<|QK (JA (n:=1) ((0)*5+2) (λF h9=>(Qw.of (n:=1) (sz:=5) h9.1.1.1.1.1.1.1.1.1.1.1.1.1.1.1.1.1.1.1.1.1.1.1.1.1.1.1.1.1.1.1.1.1.1.1.1.1.1.1.1.1.1.2 I)) O rfl JR I)<|QK (QD I)<|QM I (λ_ _ f k=>WV (s:=[49,47,50]) (y:=(tm*tm)) f wu O) λ_=>QM I (λ_ _ f k=>WV (s:=c) (y:=(Qh [49,47,50]*(tm*tm))) f hcc O) λ_=>QK (Ke (i:=0) rfl rfl D7 JR wu)<|QK (JA (n:=1) ((0)*5+0) (λF h9=>(Qw.of (n:=1) (sz:=5) h9.1.1.1.1.1.1.1.1.1.1.1.1.1.1.1.1.1.1.1.1.1.1.1.1.1.1.1.1.1.1.1.1.1.1.1.1.1.1.1.1.1.1.2 I)) O rfl JR I)<|QK (QD I)<|QM I (λ_ _ f k=>WV (s:=[49,47,54]) (y:=(tm*(tm*tm))) f wu O) λ_=>QM I (λ_ _ f k=>WV (s:=a) (y:=(Qh [49,47,54]*(tm*(tm*tm)))) f hca O) λ_=>QK (Ke (i:=1) rfl rfl D7 JR wu)<|QK (JA (n:=1) ((0)*5+1) (λF h9=>(Qw.of (n:=1) (sz:=5) h9.1.1.1.1.1.1.1.1.1.1.1.1.1.1.1.1.1.1.1.1.1.1.1.1.1.1.1.1.1.1.1.1.1.1.1.1.1.1.1.1.1.1.2 I)) O rfl JR I)<|QK (QD I)<|QM I (λ_ _ f k=>WV (s:=[49,47,50,52]) (y:=(tm*tm*(tm*tm))) f wu O) λ_=>QM I (λ_ _ f k=>WV (s:=b) (y:=(Qh [49,47,50,52]*(tm*tm*(tm*tm)))) f hcb O) λ_=>QM I (λ_ _ f k=>FP (x:=(Qh a*(Qh [49,47,54]*(tm*(tm*tm))))) (y:=(Qh b*(Qh [49,47,50,52]*(tm*tm*(tm*tm))))) f O O) λ_=>QM I (λ_ _ f k=>FP (x:=(Qh c*(Qh [49,47,50]*(tm*tm)))) (y:=((Qh a*(Qh [49,47,54]*(tm*(tm*tm))))+(Qh b*(Qh [49,47,50,52]*(tm*tm*(tm*tm)))))) f O O) λ_=>QM I (λ_ _ f k=>FP (x:=(Qh d*tm)) (y:=((Qh c*(Qh [49,47,50]*(tm*tm)))+((Qh a*(Qh [49,47,54]*(tm*(tm*tm))))+(Qh b*(Qh [49,47,50,52]*(tm*tm*(tm*tm))))))) f O O) λ_=>QM I (λ_ _ f k=>dz (s:=e) (y:=((Qh d*tm)+((Qh c*(Qh [49,47,50]*(tm*tm)))+((Qh a*(Qh [49,47,54]*(tm*(tm*tm))))+(Qh b*(Qh [49,47,50,52]*(tm*tm*(tm*tm)))))))) f hce O) λ_=>QK (QF I) ?_
   refine Q5<|QKs 5 I<|QA (Q6 (n:=c141.n) (0) (λF h9=>h9.1.1.1.1.1.1.1.1.1.1.1.1.1.1.1.1.1.1.1.1.1.1.1.1.1.1.1.1.1.1.1.2.row) rfl wM XW J1 O)<|QA (JX (n:=c141.n) (vs:=[tx (Jh (el bx (0)).1),tx (Jh (el bx (0)).2)]) ((0)*2) (λF h9=>h9.1.1.1.1.1.1.1.1.1.1.1.1.1.1.1.1.1.1.1.1.1.1.1.1.1.1.1.1.1.1.1.2.row) O rfl J1 I λj v hv=>Jc (f:=QDV) (l:=bx) zr O hv)<|QI I (λ_ _ f k=>QBS (x:=(Qh c+((Qh a*tm)+(Qh b*(Qh [49,47,50]*(tm*tm)))))) (B:=el bx 0) f O (hbl.sz _ (Q3 (by rw[hbl.len];decide))) hin.2.1) λ_=>QA (XJ I)<|wB 6 I<|QA (Q6 (n:=c141.n) (1) (λF h9=>h9.1.1.1.1.1.1.1.1.1.1.1.1.1.1.1.1.1.1.1.1.1.1.1.1.1.1.1.1.1.1.1.1.2.row) rfl wM XW J1 O)<|QL I I<|QA (JX (n:=c141.n) (vs:=[tx (Jh (el bx (1)).1),tx (Jh (el bx (1)).2)]) ((1)*2) (λF h9=>h9.1.1.1.1.1.1.1.1.1.1.1.1.1.1.1.1.1.1.1.1.1.1.1.1.1.1.1.1.1.1.1.1.2.row) O rfl J1 I λj v hv=>Jc (f:=QDV) (l:=bx) zr O hv)<|QL I I<|QI I (λ_ _ f k=>QBS (x:=(Qh d+((Qh c*tm)+((Qh a*(Qh [49,47,50]*(tm*tm)))+(Qh b*(Qh [49,47,54]*(tm*(tm*tm)))))))) (B:=el bx 1) f O (hbl.sz _ (Q3 (by rw[hbl.len];decide))) hin.2.2.1) λ_=>QL I I<|QA (XJ I)<|wB 2 I ?_
   refine wB 5 I<|QA (Q6 (n:=c141.n) (2) (λF h9=>h9.1.1.1.1.1.1.1.1.1.1.1.1.1.1.1.1.1.1.1.1.1.1.1.1.1.1.1.1.1.1.1.1.1.2.row) rfl wM XW J1 O)<|QL I I<|QA (JX (n:=c141.n) (vs:=[tx (Jh (el bx (2)).1),tx (Jh (el bx (2)).2)]) ((2)*2) (λF h9=>h9.1.1.1.1.1.1.1.1.1.1.1.1.1.1.1.1.1.1.1.1.1.1.1.1.1.1.1.1.1.1.1.1.1.2.row) O rfl J1 I λj v hv=>Jc (f:=QDV) (l:=bx) zr O hv)<|QL I I<|QI I (λ_ _ f k=>QBS (x:=(Qh e+((Qh d*tm)+((Qh c*(Qh [49,47,50]*(tm*tm)))+((Qh a*(Qh [49,47,54]*(tm*(tm*tm))))+(Qh b*(Qh [49,47,50,52]*(tm*tm*(tm*tm))))))))) (B:=el bx 2) f O (hbl.sz _ (Q3 (by rw[hbl.len];decide))) hin.2.2.2) λ_=>QL I I<|QA (XJ I)<|QKq 3 I<|YV I<|QN<|Qk<|QC<|QB<|QA (Qv I I O)<|wB 2 I ?_
   exact Ql (⟨i2.i+1,hlt2⟩) (by show 2-(i2.i+1)<2-i2.i;omega) we QJZ λF h=>h.1.1.1.1.1.1.1.1.1.1.1.1.1.1.1.1.1.1.1.1.1.1.1.1.1.1.1.1.1.1.1.1.1.1.1
  refine Q2 ?_
  repeat first|refine QY ?_|refine QP wy ?_
  refine QZ<|Qk<|QKs 3 I<|QA (Qv I I O)<|wB 2 I ?_
  exact Ql (⟨i.i+1,hlt⟩) (by show n-(i.i+1)<n-i.i;omega) wX QJZ λF h=>h.1.1
 refine Q2 ?_
 repeat first|refine QY ?_|refine QP wy ?_
 refine QZ<|QC<|QKO<|QI I (λ_ _ f k=>xR f k.1.1.1.1.1.1.1.1.1.1.1.1.1.1.1.1.1.1.1.1) λ_=>wQ I<|QW ?_
 exact QKx I I (rfl) w8
end Go.Proofs.YtpmehagnedbkhaaGreatDoor
