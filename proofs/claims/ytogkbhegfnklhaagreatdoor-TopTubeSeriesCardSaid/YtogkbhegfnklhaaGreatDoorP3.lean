/- Steps of the proof of the theorem in the last file. -/
import Derived.Test.YtogkbhegfnklhaaGreatDoorP2
import Derived.RangeFuncLeaves
import Derived.RangeFuncSeq
import Derived.OwnWalkIn
import Derived.OrdersIn
import Derived.ChangeKeysEq
import Derived.KernelRfl
import Derived.Lib.AppendZeros
import Derived.Scope
import Derived.Control
set_option linter.all false
set_option maxHeartbeats 4000000
open Go.Proofs.Tryz
open Bool renaming eq_iff_iff -> aa,and_eq_true -> aS,or_eq_true -> bL,not_eq_true' -> bS,or_eq_false_iff -> eZ,and_false -> fy,false_or -> fB
open Go.Value renaming bool -> ae,int -> ah
open List renaming length_map -> af,range -> ai,map_append -> ak,append_assoc -> ao,mem_cons_of_mem -> ar,foldl_append -> au,map_cons -> aw,perm_append_comm -> ax,getElem_map -> aA,range_succ -> aC,length_append -> aE,length_range -> aG,take_succ_cons -> aM,mem_map_of_mem -> aQ,drop_succ_cons -> aR,perm_append_comm_assoc -> aX,take_zero -> aY,drop_zero -> aZ,contains_eq_mem -> bh,take_length -> bw,mem_cons -> bA,length_erase_of_mem -> bB,mem_cons_self -> bD,take_of_length_le -> bF,replicate -> bH,drop_of_length_le -> bI,nil_append -> bJ,mem_append -> bK,flatMap_append -> bN,map_map -> bO,flatMap -> bP,sublist_append_right -> bQ,not_mem_nil -> bT,length_take -> bU,cons_append -> bV,length_set -> bW,foldl_cons -> bY,append_nil -> bZ,mem_singleton -> er,mem_map -> ew,map_nil -> ey,map -> eB,length_cons -> eD,exists_cons_of_ne_nil -> eK,getElem_append_right -> eN,getElem_append_left -> eO,map_set -> eR,length_pos_of_mem -> eT,singleton_append -> eV,mem_of_mem_take -> eX,length -> eY,map_congr_left -> e9,getElem_of_mem -> fa,ext_getElem -> fg,drop_append -> fh,any_eq_true -> fi,nodup_cons -> fk,mem_filter -> fm,sum_cons -> fA,map_id -> fH
open Rat renaming mul_le_mul_of_nonneg_left -> aj,mul_le_mul_of_nonneg_right -> aB,le_trans -> aT,le_refl -> bj,divInt_mul_right -> ee,le_total -> eU,mkRat_self -> fz,pow_zero -> fD,pow_succ -> fF
open Nat renaming zero_le -> aq,le_trans -> ay,beq -> az,lt_or_ge -> aD,eq_of_beq_eq_true -> aF,zero_add -> aH,le_refl -> bm,pow_add -> ek,pow_pos -> eH,not_lt_zero -> eI,mul_le_mul -> eM,mul_assoc -> eQ,mul_le_mul_right -> e8,strongRecOn -> fq,lt_irrefl -> fC,sub_zero -> fG,pow_one -> fL,add_mul -> fM
open Go.Fence renaming wide -> aK
open Int renaming natAbs_natCast -> aV,natAbs_mul -> ep,lt_or_le -> eW,natCast_mul -> fu
open Go.Lib renaming decDigits -> aW
open List.Sublist renaming refl -> bz,cons -> fN
open Go.Result renaming andThen_ok -> eu
open Go.Sem renaming run_bind -> eC,run_pure -> fJ
open Go.Oper renaming semAt_plain -> eE,upon -> fj,uponIn -> fK
open Go.Obj renaming cells -> eF
open Option renaming none_or -> eG
open Go.Region renaming wanted -> eL
open Go.ByteArray renaming toList_eq -> eP
open List.Perm renaming refl -> fb
open Array renaming ext' -> fc
open Go.Instr renaming beginRound -> fe
open Prod.mk renaming injEq -> ff
open And renaming intro -> fp
open List.Pairwise renaming nil -> fI
namespace Go.Proofs.YtogkbhegfnklhaaGreatDoor
variable{a:Rat×Rat}{N Q b c cap d i k n:Nat}{l:List Int}{f s:List UInt8}{x:Operand}{ps:List Ng}{w w0:World}{F F' F0:Gs}{α ι:Type}{m:Sl}{c1 c2 rest:List Value}{assign body:Code}{R:Ending->World->Prop}{bs:List (Nat×Obj)}{G G0:Gs->Prop}{β:Nat->Nat}{A u:List Nat}{d0:Df}
open Go.RowKit Ig
theorem PT{a b:Int}(h:Qn [a,b]=0):a=0/\b=0:=by
 unfold Qn at h;by_cases g:a=0
 ·rw[if_pos g]at h;unfold Qn at h;by_cases k:b=0
  ·exact⟨g,k⟩
  rw[if_neg k]at h;exact⟨g,h⟩
 rw[if_neg g]at h;exact absurd h g
def VT(p:Pt)(v:Int)(i:Nat):Int :=
 let e:=Qn [ZL (el p i).1 (el p i).2 v,if((el p i).1==[48])=true then 6 else 0]
 if e=0/\0<i/\0<=Wo (el p (i-1)).2 (el p i).2 then 11 else e
def ZY(p:Pt)(v:Int):Int:=if decide ((p.length:Int)>64)=true then 5 else Qn ((ai p.length).map (VT p v))
theorem Kw(h:i<n):el (ai n) i=i:=by rw[JB (by simpa using h)];simp
theorem Tq{ts:List Ng}(h:i<ts.length):el (VJ ts) i=((el ts i).f,(el ts i).k):=by rw[JB (by simpa[VJ]using h),JB h];simp[VJ]
theorem LC(h:∀k∈l,0<=k)(hc:Vx l<=12):∀k∈l,k<=12:=by
 induction l with
 |nil=>intro k hk;cases hk
 |cons x l ih =>
  have a:∀k∈l,0<=k:=λk hk=>h k (by simp[hk]);have h1:=(Bt l a).1;have h2:=h x wu;have e:Vx (x::l)=(if 13<x then 13 else x)+Vx l:=by unfold Vx;rw[aw,fA]
  rw[e]at hc;intro k hk;rcases List.mem_cons.1 hk with rfl | hk
  ·split at hc<;>omega
  refine ih a ?_ k hk;split at hc<;>omega
theorem KR{v:Int}(h:ZL f l v=0):(l.length:Int)=v+1/\(∀k∈l,0<=k/\k<=12)/\Vx l<=12/\JW f=0:=by
 unfold ZL at h;split at h
 ·omega
 rename_i h1;split at h
 ·omega
 rename_i h2;have hn:∀k∈l,0<=k:=λk hk=>by
  rcases eW k 0 with g | g
  ·exact absurd (List.any_eq_true.2 ⟨k,hk,decide_eq_true g⟩) h2
  exact g
 obtain⟨g1,g2⟩:=PT h;have hc:Vx l<=12:=by
  rcases eW 12 (Vx l)with g | g
  ·rw[if_pos (decide_eq_true g)]at g1;omega
  exact g
 exact⟨O,λk hk=>⟨hn k hk,LC hn hc k hk⟩,hc,g2⟩
theorem Y9{v:Int}(h:ZL f l v=0)(hv:v<=24):PW l:=by
 obtain⟨h1,h2,_⟩:=KR h;exact⟨λk hk=>wg<|h2 k hk,O⟩
theorem D7{p:Pt}{v:Int}(h:VT p v i=0):ZL (el p i).1 (el p i).2 v=0/\(el p i).1≠[48]/\(0<i->Wo (el p (i-1)).2 (el p i).2<0):=by
 unfold VT at h;dsimp only at h;by_cases g:Qn [ZL (el p i).1 (el p i).2 v,if((el p i).1==[48])=true then 6 else 0]=0/\0<i/\0<=Wo (el p (i-1)).2 (el p i).2
 ·rw[if_pos g]at h;omega
 rw[if_neg g]at h;obtain⟨h1,a⟩:=PT h;have h2:(el p i).1≠[48]:=by
  intro q;rw[if_pos (by rw[q];rfl)]at a;omega
 refine⟨h1,h2,λhi=>?_⟩;rcases eW (Wo (el p (i-1)).2 (el p i).2) 0 with q | q
 ·exact q
 exact absurd ⟨h,hi,q⟩ g
structure qR(p:Pt)(v:Int)(n:Nat) where
 i:Nat
 le:i<=n
 z:∀j,j<i->VT p v j=0
def qR.scan{p:Pt}{v:Int}{n:Nat}(s:qR p v n):X3 (ai n) (VT p v):=⟨s.i,by rw[aG];exact s.le,by
 have key:∀i,i<=n->(∀j,j<i->VT p v j=0)->Qn ((ai n).map (VT p v))=Qn (((ai n).map (VT p v)).drop i):=by
  intro i
  induction i with
  |zero=>intro _ _;rfl
  |succ i ih =>
   intro hi hz;rw[ih O (λj a=>hz j O),WC wv (by simp;exact hz i O)]
 exact key s.i s.le s.z⟩
theorem Wv{p:Pt}{v x:Int}{n:Nat}(b:p.length=n)(hp:¬(n:Int)>64)(s:qR p v n)(h:s.i<n)(a:VT p v s.i=x)(hx:x≠0):ZY p v=x:=by
 unfold ZY;rw[b,if_neg (by rw[decide_eq_true_eq];exact hp),s.scan.hit (by rw[aG];exact h) (by rw[show s.scan.i=s.i from rfl,Kw h,a];exact hx),show s.scan.i=s.i from rfl,Kw h,a]
theorem Ua{p:Pt}{v:Int}{n:Nat}(a:p.length=n)(hp:¬(n:Int)>64)(s:qR p v n)(h:n<=s.i):ZY p v=0:=by
 unfold ZY;rw[a,if_neg (by rw[decide_eq_true_eq];exact hp),s.scan.stop (by rw[aG];exact h)]
theorem step_eq{v E:Int}(h:i<ps.length)(a:Qn [ZL (el ps i).f (el ps i).k v,if((el ps i).f==[48])=true then 6 else 0]=E):VT (VJ ps) v i=if E=0/\0<i/\0<=Wo (el ps (i-1)).k (el ps i).k then 11 else E:=by
 unfold VT;rw[Tq h,Tq (show i-1<ps.length by omega)];dsimp only;rw[a]
theorem ya{q:Option Addr}{v:Int}(hF:Fits F w)(hGl:JU F)(hR:Qz F q n 2 (ps.flatMap EX))(hP:Wp F ps)(X:ps.length=n)(hf:∀t∈ps,t.f.length<=1000000/\t.k.length<=1000000)(hl:ps.length<=1000000)(hv:0<=v/\v<=24):QX prog 150 [.slice q n cap,.int .i64 v] w F (.int .i64 (ZY (VJ ps) v)):=by
 have x:(VJ ps).length=n:=by unfold VJ;rw[af];exact X
 refine QU.go (G:=λF=>JU F/\Qz F q n 2 (ps.flatMap EX)/\Wp F ps) func150 hF ⟨hGl,hR,hP⟩ ?_;refine wA 9 I<|QA (Qb I Y1)<|QOm 3 I ?_
 refine QP I (λhc=>?_) λhc=>?_
 ·have m:=hc;refine wA 6 I ?_;exact QO2 I I (congrArg (ah .i64) (by unfold ZY;rw[x,if_pos m])) wy
 have m:=QOX hc;refine QOn 6 I<|QA (Qb I Y1)<|QOm 4 I<|J2 (ι:=qR (VJ ps) v n) [(0,_),(1,_),(11,_),(12,_)] (λi=>[(13,.int .i64 ((i.i:Nat):Int))]) (λi=>n-i.i) (⟨0,aq _,λj L=>absurd L (eI _)⟩) wV wS λi=>?_
 have hi:=i.le;refine wA 6 I ?_;refine QP I (λhc=>?_) λhc=>?_
 ·have o:i.i<n:=wg<|QOW hc
  have y:el ps i.i∈ps:=Qy O;refine QOn 7 I<|QA (Qs (n:=n) i.i (λF h9=>h9.2.1) rfl rfl Y1 Z3 O)<|QA (J0 (n:=n) (vs:=[tx (el ps i.i).f,.slice (el ps i.i).r.q (el ps i.i).r.n (el ps i.i).r.cap]) ((i.i)*2) (λF h9=>h9.2.1) O rfl Z3 I λj v hv=>JX (f:=EX) (l:=ps) KJ O hv)<|Qe uV λb6=>QMv I<|QV (vs:=[_,_]) I I I Z3 I .here .h2 wT<|QMt<|QG<|JO QNG mixed wi<|QK (wH I Z3 .here)<|QK (QC I)<|QZ I (λ_ _ g h=>pP g (h.1) (f:=(el ps i.i).f) (l:=(el ps i.i).k) (h.2.2 _ y) ((hf _ y).1) ((hf _ y).2) O) λ_=>QK (QH I Ga JQ)<|QK (Qa I JQ .here .h1)<|QK (Yw I I)<|QZ I (λ_ _ f k=>Np f ) λ_=>?_
  refine JK I (Jc Yv) WR Fj I I (λb25=>?_) (λw h=>h.imp w9 λF h=>h.1.1);refine QZ I (λ_ _ g h=>OR g (Qz.of (cs:=eB JJ [ZL (el ps i.i).f (el ps i.i).k v,if((el ps i.i).f==[48])=true then 6 else 0]) h.2 I) wj) (λ_=>QK (QF I)<|Qw<|QOo 3 I<|JO QNG mixed wi ?_);generalize hE:Qn [ZL (el ps i.i).f (el ps i.i).k v,if((el ps i.i).f==[48])=true then 6 else 0]=E;have b:=step_eq (v:=v) (show i.i<ps.length by omega) hE;refine QK (QC I)<|QK (QM I I I)<|QK (QC I) ?_
  refine Vl (t:=29) rfl (λa=>?_) λa=>?_
  ·refine JF I I<|QK (QC I)<|JF I I<|QK (QM I I I)<|QK (QT I I I)<|QK (QC I) ?_
   refine Vl (t:=33) rfl (λc=>?_) λc=>?_
   ·refine JF I I<|QK (QC I)<|JF I I<|QK (QC I)<|JF I I<|QK (Jv I I O)<|JF I I ?_
    have hi0:0<i.i:=wg<|QOW c
    refine QK (Qs (n:=n) ((i.i-1)) (λF h9=>h9.1.1.1.1.2.1) rfl wM Y1 Z3 O)<|JF I I<|QK (QH I Z7 Qx)<|JF I I<|QK (Qu (n:=n) (((i.i-1))*2+1) (λF h9=>h9.1.1.1.1.2.1) O rfl Qx (JX (f:=EX) (l:=ps) KJ O rfl))<|JF I I<|QK (QH I Z7 Qx)<|JF I I<|QK (Qa I Qx .here (.skip .h1))<|JF I I ?_
    have H:=(D7 (i.z (i.i-1) O)).1;rw[Tq (show i.i-1<ps.length by omega)]at H;have hE0:E=0:=eq_of_beq a;obtain⟨U,_⟩:=PT (hE.trans hE0);have K:el ps (i.i-1)∈ps:=Qy O;refine QZ I (λ_ _ f k=>PB f (ra:=(el ps (i.i-1)).r) (rb:=(el ps i.i).r) (k.1.1.1.1.2.2 _ K) (k.1.1.1.1.2.2 _ y) (Y9 H hv.2) (Y9 U hv.2)) (λ_=>JF I I<|QK (QM I I I)<|QK (QT I I I)<|Qw<|QD ?_);refine QP I (λhc=>?_) λhc=>?_
    ·have d:=QOW hc;refine QOn 10 I ?_;refine QP I (λhc=>?_) λhc=>?_
     ·refine wA 6 I<|X4 ?_
      exact QO2 I I (congrArg (ah .i64) (Wv x m i o (by first | (rw[b];exact if_pos ⟨eq_of_beq a,wg<|QOW c,d⟩) | (rw[b];exact if_neg λh=>d h.2.2) | (rw[b];exact if_neg λh=>wg<|QOX c) | (rw[b];exact if_neg λh=>by rw[h.1]at a;cases a)) (bne_iff_ne.1 hc))) wy
     refine QN<|Qf<|QD<|QB<|QA (Qk I I O)<|wB 2 I ?_
     exact Qh (⟨i.i+1,o,λj L=>by
      rcases aD j i.i with g | g
      ·exact i.z j g
      rw[show j=i.i from by omega];first | exact absurd hc wj | (rw[b,if_neg (λh=>d h.2.2)];exact bne_eq_false_iff_eq.1 hc) | (rw[b,if_neg (λh=>wg<|QOX c)];exact bne_eq_false_iff_eq.1 hc) | (rw[b,if_neg (λh=>by rw[h.1]at a;cases a)];exact bne_eq_false_iff_eq.1 hc)⟩) (by show n-(i.i+1)<n-i.i;omega) wW (.cons _ .slnil) λF h=>h.1.1.1.1.1
    have d:=QOX hc;refine QOn 8 I ?_;refine QP I (λhc=>?_) λhc=>?_
    ·refine wA 6 I<|X4 ?_
     exact QO2 I I (congrArg (ah .i64) (Wv x m i o (by first | (rw[b];exact if_pos ⟨eq_of_beq a,wg<|QOW c,d⟩) | (rw[b];exact if_neg λh=>d h.2.2) | (rw[b];exact if_neg λh=>wg<|QOX c) | (rw[b];exact if_neg λh=>by rw[h.1]at a;cases a)) (bne_iff_ne.1 hc))) wy
    refine QN<|Qf<|QD<|QB<|QA (Qk I I O)<|wB 2 I ?_
    exact Qh (⟨i.i+1,o,λj L=>by
     rcases aD j i.i with g | g
     ·exact i.z j g
     rw[show j=i.i from by omega];first | exact absurd hc wj | (rw[b,if_neg (λh=>d h.2.2)];exact bne_eq_false_iff_eq.1 hc) | (rw[b,if_neg (λh=>wg<|QOX c)];exact bne_eq_false_iff_eq.1 hc) | (rw[b,if_neg (λh=>by rw[h.1]at a;cases a)];exact bne_eq_false_iff_eq.1 hc)⟩) (by show n-(i.i+1)<n-i.i;omega) wW (.cons _ .slnil) λF h=>h.1.1.1.1.1
   refine Q6 I I I<|Q6 I I I<|Q6 I I I<|Q6 I I I<|Q6 I I I<|Q6 I I I<|Q6 I I I<|Q6 I I I<|Q6 I I I<|Q6 I I I<|QK (QS I I I)<|Qw<|QD<|Zq I<|QOn 8 I ?_
   refine QP I (λhc=>?_) λhc=>?_
   ·refine wA 6 I<|X4 ?_
    exact QO2 I I (congrArg (ah .i64) (Wv x m i o (by first | (rw[b];exact if_pos ⟨eq_of_beq a,wg<|QOW c,d⟩) | (rw[b];exact if_neg λh=>d h.2.2) | (rw[b];exact if_neg λh=>wg<|QOX c) | (rw[b];exact if_neg λh=>by rw[h.1]at a;cases a)) (bne_iff_ne.1 hc))) wy
   refine QN<|Qf<|QD<|QB<|QA (Qk I I O)<|wB 2 I ?_
   exact Qh (⟨i.i+1,o,λj L=>by
     rcases aD j i.i with g | g
     ·exact i.z j g
     rw[show j=i.i from by omega];first | exact absurd hc wj | (rw[b,if_neg (λh=>d h.2.2)];exact bne_eq_false_iff_eq.1 hc) | (rw[b,if_neg (λh=>wg<|QOX c)];exact bne_eq_false_iff_eq.1 hc) | (rw[b,if_neg (λh=>by rw[h.1]at a;cases a)];exact bne_eq_false_iff_eq.1 hc)⟩) (by show n-(i.i+1)<n-i.i;omega) wW (.cons _ .slnil) λF h=>h.1.1.1.1
  refine Q6 I I I<|Q6 I I I<|QK (QS I I I)<|QK (QC I)<|Q6 I I I<|Q6 I I I<|Q6 I I I<|Q6 I I I<|Q6 I I I<|Q6 I I I<|Q6 I I I<|Q6 I I I<|Q6 I I I<|Q6 I I I<|QK (QS I I I)<|Qw<|QD<|Zq I<|QOn 8 I ?_
  refine QP I (λhc=>?_) λhc=>?_
  ·refine wA 6 I<|X4 ?_
   exact QO2 I I (congrArg (ah .i64) (Wv x m i o (by first | (rw[b];exact if_pos ⟨eq_of_beq a,wg<|QOW c,d⟩) | (rw[b];exact if_neg λh=>d h.2.2) | (rw[b];exact if_neg λh=>wg<|QOX c) | (rw[b];exact if_neg λh=>by rw[h.1]at a;cases a)) (bne_iff_ne.1 hc))) wy
  refine QN<|Qf<|QD<|QB<|QA (Qk I I O)<|wB 2 I ?_
  exact Qh (⟨i.i+1,o,λj L=>by
     rcases aD j i.i with g | g
     ·exact i.z j g
     rw[show j=i.i from by omega];first | exact absurd hc wj | (rw[b,if_neg (λh=>d h.2.2)];exact bne_eq_false_iff_eq.1 hc) | (rw[b,if_neg (λh=>wg<|QOX c)];exact bne_eq_false_iff_eq.1 hc) | (rw[b,if_neg (λh=>by rw[h.1]at a;cases a)];exact bne_eq_false_iff_eq.1 hc)⟩) (by show n-(i.i+1)<n-i.i;omega) wW (.cons _ .slnil) λF h=>h.1.1.1.1
 have Y:n<=i.i:=wg<|QOX hc
 refine Q7 ?_;refine wA 6 I ?_;exact QO2 I I (congrArg (ah .i64) (Ua x m i Y)) wy
def L5(p:Pt)(v:Int):Int:=if G9 v=0 then ZY p v else G9 v
theorem Tf{q:Option Addr}{v:Int}(j:Fits F w)(c:JU F)(h:Qz F q n 2 (ps.flatMap EX))(i:Wp F ps)(b:ps.length=n)(g:∀t∈ps,t.f.length<=1000000/\t.k.length<=1000000)(d:ps.length<=1000000):QX prog 73 [.slice q n cap,.int .i64 v] w F (.int .i64 (L5 (VJ ps) v)):=by
 refine QU.go (G:=λF=>JU F/\Qz F q n 2 (ps.flatMap EX)/\Wp F ps) func73 j ⟨c,h,i⟩ ?_;refine wA 9 I<|QL I (λ_ _ f k=>C9 f ) λ_=>QOm 9 I ?_
 refine QP I (λhc=>?_) λhc=>?_
 ·have a:=bne_iff_ne.1 hc;refine wA 7 I ?_;exact QO2 I I (congrArg (ah .i64) (by unfold L5;rw[if_neg a])) wy
 have a:=bne_eq_false_iff_eq.1 hc;have hv:=(SN v).1 a;refine QOn 6 I<|QL I (λ_ _ f k=>ya f (k.1.1) (k.1.2.1) (k.1.2.2) (b) (g) (d) (hv)) λ_=>wQ I<|QW ?_
 exact QO2 I I (congrArg (ah .i64) (by unfold L5;rw[if_pos a])) wy
instance :Inhabited UM:=⟨(⟨none,0,0⟩,[])⟩
section
variable[Dr][df:Df]{P:Program}{N:Nat}{m:Sl}{S:World->Prop}{ty:TypeId}
theorem PA{g:FuncId}{cap:Array Operand}{vs:List Value}(hv:Hk m cap.toList=some vs):Qt P N m S (.makeFunc (.func g) #[] cap) ty (.func (.func g) #[] vs.toArray):=λa w _ _ _ _ ha _=>by
 have:=ha.Hk hv;have e:cap.map a.eval=vs.toArray:=by rw[<-this];apply fc;simp
 simp[execOp,Instr.makeFunc,e]
end
def FX(F:Gs)(ls:List UM):Prop:=∀e∈ls,Qz F e.1.q e.1.n 2 (e.2.flatMap EX)/\Wp F e.2
theorem FX.le{ls:List UM}(h:FX F ls)(k:Gs.le F F'):FX F' ls:=λe he=>⟨(h e he).1.le k,(h e he).2.le k⟩
def QCO(e:UM):Prop:=e.2.length=e.1.n/\(∀t∈e.2,t.f.length<=1000000/\t.k.length<=1000000)/\e.2.length<=1000000
def Hs(p:Pt):List Tm:=p.map λx=>(Jr x.1,x.2)
theorem UU(ts:List Ng):ts.map k8=Hs (VJ ts):=by simp[Hs,VJ,k8]
theorem QAu{l:List Tm}(h:∀t∈l,J6 t.1<=k):B8 l<=l.length*(k+1):=by
 induction l with
 |nil=>simp[B8]
 |cons x l ih =>
  have e:B8 (x::l)=J6 x.1+1+B8 l:=by unfold B8;rw[aw,fA]
  have h1:=ih λt ht=>h t (by simp[ht]);have h2:=h x wu;rw[e,eD,fM];omega
theorem RM{a b:List Int}(h:Wo a b<0):before a b=true:=by rw[W8];exact decide_eq_true h
theorem Wg[Inhabited α]{R:α->α->Prop}(ht:∀a b c,R a b->R b c->R a c):∀(l:List α),(∀i,0<i->i<l.length->R (el l (i-1)) (el l i))->l.Pairwise R
 |[],_=>fI
 |x::l,h=>by
  have ih:=Wg ht l λi h0 hi=>by
   have:=h (i+1) O wv;have f:el (x::l) (i+1)=el l i:=rfl;have d:el (x::l) (i+1-1)=el l (i-1):=by
    obtain⟨j,rfl⟩:∃j,i=j+1:=⟨i-1,O⟩;rfl
   rw[f,d]at this;exact this
  refine List.pairwise_cons.2 ⟨?_,ih⟩;cases l with
  |nil=>intro y hy;cases hy
  |cons z l =>
   have hz:R x z:=h 1 O wu;intro y hy;rcases List.mem_cons.1 hy with rfl | hy
   ·exact hz
   exact ht _ _ _ hz ((List.pairwise_cons.1 ih).1 y hy)
structure Bv(p:Pt)(v:Int):Prop where
 len:p.length<=64
 term:∀x∈p,ZL x.1 x.2 v=0
 can:Canon (Hs p)
theorem Rc{p:Pt}{v:Int}(h:ZY p v=0):Bv p v:=by
 unfold ZY at h;split at h
 ·omega
 rename_i hl;have hl':p.length<=64:=by rw[decide_eq_true_eq]at hl;omega
 have hz:∀i,i<p.length->VT p v i=0:=by
  have key:∀(l:List Int),Qn l=0->∀x∈l,x=0:=by
   intro l
   induction l with
   |nil=>intro _ x hx;cases hx
   |cons a l ih =>
    intro h x hx;unfold Qn at h;by_cases g:a=0
    ·rw[if_pos g]at h;rcases List.mem_cons.1 hx with rfl | hx
     ·exact g
     exact ih h x hx
    rw[if_neg g]at h;exact absurd h g
  intro i hi;exact key _ h _ (List.mem_map.2 ⟨i,by simpa using hi,rfl⟩)
 have hs:=λi hi=>D7 (hz i hi);have hel:∀x∈p,∃i,i<p.length/\el p i=x:=λx hx=>by
  obtain⟨i,hi,e⟩:=fa hx;exact⟨i,hi,by rw[JB hi];exact e⟩
 refine⟨hl',λx hx=>?_,⟨?_,λt ht=>?_⟩⟩
 ·obtain⟨i,hi,rfl⟩:=hel x hx;exact(hs i hi).1
 ·unfold Hs;rw[List.pairwise_map];refine Wg (R:=λa b:List UInt8×List Int=>before a.2 b.2=true) (λa b c h k=>before_trans h k) p λi h0 hi=>?_;exact RM ((hs i hi).2.2 h0)
 unfold Hs at ht;obtain⟨x,hx,rfl⟩:=List.mem_map.1 ht;obtain⟨i,hi,rfl⟩:=hel x hx;have h1:=(KR (hs i hi).1).2.2.2;have h2:=(hs i hi).2.1;intro e;have h3:=(XW h1).1;have e':Jr (el p i).1=0:=e;rw[e']at h3;exact h2 (h3.trans N8)
theorem Bv.sz{p:Pt}{v:Int}(h:Bv p v):∀t∈Hs p,J6 t.1<=2400:=λt ht=>by
 unfold Hs at ht;obtain⟨x,hx,rfl⟩:=List.mem_map.1 ht;exact Yx (KR (h.term x hx)).2.2.2
theorem Bv.B8{p:Pt}{v:Int}(h:Bv p v):YtogkbhegfnklhaaGreatDoor.B8 (Hs p)<=160000:=by
 have h1:=QAu h.sz;have h2:(Hs p).length<=64:=by unfold Hs;rw[af];exact h.len
 have:=e8 2401 h2;omega
theorem Lu{a:UM}{v:Int}(m:Fits F w)(g:JU F)(i:Qz F a.1.q a.1.n 2 (a.2.flatMap EX))(j:Wp F a.2)(ht:QCO a)(d:Bv (VJ a.2) v)(hv:0<=v/\v<=24):
  QU prog 76 [a.1.v] w F (λ(c:Px)=>c.1.v) (λc F=>Ws F c.1 c.2 (Hs (VJ a.2))):=by
 have o:=d.B8;have h:=gO m g (r:=a.1) (ps:=a.2) i j ht.1 (by have:=d.len;simp[VJ]at this;omega) (λt b=>?_) (by rw[UU];omega)
 ·rw[UU,PE d.can]at h;exact h
 have h1:=d.term (t.f,t.k) (List.mem_map.2 ⟨t,b,rfl⟩);exact⟨(KR h1).2.2.2,(ht.2.1 t b).1,Y9 h1 hv.2⟩
theorem BO{a z v r:List Value}(h:z.length=v.length):Yz (a++(z++r)) a.length v (a++(v++r)):=by
 have:=Yz.mk' a.length (a++(z++r)) v (by simp only[aE];omega);rw[List.take_left,fh,bI O,bJ,Nat.add_sub_cancel_left,fh,bI O,bJ,<-h,Nat.sub_self,aZ,ao]at this;exact this
def Vp(F:Gs)(xs:List (Fr×Rat)):Prop:=∀p∈xs,Ja F p.1 p.2
theorem Vp.le{xs:List (Fr×Rat)}(h:Vp F xs)(k:Gs.le F F'):Vp F' xs:=λp hp=>(h p hp).le k
instance{xs:List (Fr×Rat)}: Up (λF=>Vp F xs):=⟨λk h=>Vp.le h k⟩
def YO(xs:List (Fr×Rat)):List Value:=xs.flatMap λp=>GN p.1
theorem Ah(xs:List (Fr×Rat)):(YO xs).length=xs.length*4:=by
 unfold YO
 induction xs with
 |nil=>rfl
 |cons x xs ih=>rw[List.flatMap_cons,aE,ih,eD,fM];simp[GN];omega
def zFr:List Value:=[.int .i64 0,.slice none 0 0,.int .i64 0,.slice none 0 0]
theorem QCz{xs:List (Fr×Rat)}(h:xs.length=i)(hi:i<n)(x:Fr)(r:Rat):Yz (YO xs++Jz zFr (n-i)) (0+i*4) (GN x) (YO (xs++[(x,r)])++Jz zFr (n-(i+1))):=by
 have b:n-i=(n-(i+1))+1:=O;have a:YO (xs++[(x,r)])=YO xs++GN x:=by unfold YO;rw[bN];simp
 rw[b,Jz,a,ao,show 0+i*4=(YO xs).length by rw[Ah,h];omega];exact BO I
instance :Inhabited Fr:=⟨⟨⟨0,none,0,0⟩,⟨1,none,0,0⟩⟩⟩
instance :Inhabited (Fr×Rat):=⟨(default,0)⟩
theorem RX{B:Nat}:∀(l:List Rat) (s:Rat×Rat),J6 s.1<=B->J6 s.2<=B->(∀x∈l,J6 x<=B)->J6 (l.foldl Xx s).1<=B/\J6 (l.foldl Xx s).2<=B
 |[],s,h1,h2,_=>⟨h1,h2⟩
 |x::l,s,h1,h2,h=>by
  have hx:=h x wu;exact RX l (Xx s x) (by unfold Xx;dsimp only;split<;>assumption) (by unfold Xx;dsimp only;split<;>assumption) λy hy=>h y (by simp[hy])
theorem yM(x y:Fr):∀v∈GN x++GN y,v.oneCell'=true:=by
 intro v hv;simp only[GN,bV,bJ,bA,bT,or_false]at hv;rcases hv with rfl | rfl | rfl | rfl | rfl | rfl | rfl | rfl<;>rfl
def RQ(a b:Rat×Rat):Rat×Rat:=(a.1+b.1,a.2+b.2)
def GP(a:Rat×Rat)(k:Nat):Prop:=J6 a.1<=k/\J6 a.2<=k
theorem GP.mono{l:Nat}(h:GP a k)(g:k<=l):GP a l:=⟨ay h.1 g,ay h.2 g⟩
theorem FK{r:Rat}{l:List Rat}(h:J6 r<=k)(a:∀x∈l,J6 x<=k):GP (WU r l) k:=RX l (r,r) h h a
theorem Sk{b:Rat×Rat}{m:Nat}(ha:GP a m)(hb:GP b n):GP (XP a b) (m+n):=by
 have h:∀x y:Rat,J6 x<=m->J6 y<=n->J6 (x*y)<=m+n:=λx y h1 h2=>wg<|BN x y
 unfold XP;refine FK (h _ _ ha.1 hb.1) λx hx=>?_;simp only[bA,bT,or_false]at hx;rcases hx with rfl | rfl | rfl
 ·exact h _ _ ha.1 hb.2
 ·exact h _ _ ha.2 hb.1
 exact h _ _ ha.2 hb.2
def Jp(s:List UInt8×List UInt8):Rat×Rat:=(Jr s.1,Jr s.2)
def Zw(x:Sp):List Value:=GN x.lo++GN x.hi
def dD(m x:Rat):Rat:=if Ky x m<0 then x else m
def pB(m x:Rat):Rat:=if Ky x m>0 then x else m
theorem Bu(r:Rat)(l:List Rat):WU r l=(l.foldl dD r,l.foldl pB r):=by
 have:∀(l:List Rat) (a b:Rat),l.foldl Xx (a,b)=(l.foldl dD a,l.foldl pB b):=by
  intro l
  induction l with
  |nil=>intro a b;rfl
  |cons x l ih=>intro a b;rw[bY,bY,bY];exact ih _ _
 exact this l r r
theorem EM{f:Rat->Rat->Rat}(b:∀m x,f m x=m\/f m x=x){P:Rat->Prop}:∀(l:List Rat) (r:Rat),P r->(∀x∈l,P x)->P (l.foldl f r)
 |[],_,h,_=>h
 |x::l,r,h,a=>EM b l (f r x) (by rcases b r x with e | e<;>rw[e];exact h;exact a x wu) λy hy=>a y (by simp[hy])
theorem QBa(m x:Rat):dD m x=m\/dD m x=x:=by unfold dD;split<;>simp
theorem QBy(m x:Rat):pB m x=m\/pB m x=x:=by unfold pB;split<;>simp
structure LgI(f:Rat->Rat->Rat)(r:Rat)(l:List Rat) where
 i:Nat
 x:Fr
 s:Rat
 le:i<=l.length
 h:s=(l.take i).foldl f r
theorem LgI.step{f:Rat->Rat->Rat}{r:Rat}{l:List Rat}(s:LgI f r l)(h:s.i<l.length):f s.s (el l s.i)=(l.take (s.i+1)).foldl f r:=by
 rw[Zb h,au,<-s.h];rfl
theorem LgI.end_{f:Rat->Rat->Rat}{r:Rat}{l:List Rat}(s:LgI f r l)(h:s.i=l.length):s.s=l.foldl f r:=by
 rw[s.h,h,bw]
theorem TO{x:Fr}{r:Rat}{q:Option Addr}{ps:List (Fr×Rat)}(hF:Fits F w)(h:Ja F x r)(E:Qz F q n 4 (ps.flatMap λe=>GN e.1))(o:∀p∈ps,Ja F p.1 p.2)(Y:ps.length=n)(hb:n<=1000000)(hz:J6 r<=100000000/\∀p∈ps,J6 p.2<=100000000):
  ZE prog 213 [x.v,.slice q n c] w F ((ps.map (·.2)).foldl dD r):=by
 have hml:(ps.map (·.2)).length=n:=by simpa using Y
 dsimp only[Fr.v];refine QU.intro (G:=λF=>Ja F x r/\Qz F q n 4 (ps.flatMap λe=>GN e.1)/\(∀p∈ps,Ja F p.1 p.2)) func213 rfl wm rfl rfl hF (λF' m=>⟨h.le m,E.le m,λp hp=>(o p hp).le m⟩)<|QNz<|Qv rfl (vs:=[_,_,_,_]) rfl λb2=>Qe Yu λb4=>QMt<|QG<|wR rfl<|QA (Qb rfl Zg)<|QMu rfl<|QMt<|QQ<|Jf (ι:=LgI dD r (ps.map (·.2))) [(2,_),(4,_),(7,_),(8,_)] (λi=>[(9,.int .i64 ((i.i:Nat):Int))]) (λi=>[(b4,.cells [.int .i64 0,.slice none 0 0,.int .i64 0,.slice none 0 0].toArray 87 (0,0)),(b2,.cells [.int .i64 i.x.n.s,.slice i.x.n.q i.x.n.n i.x.n.cap,.int .i64 i.x.d.s,.slice i.x.d.q i.x.d.n i.x.d.cap].toArray 87 (0,0))]) (λi F=>Ja F i.x i.s) (λi=>n-i.i) (⟨0,x,r,aq _,rfl⟩) wV wS QNG w7 λi=>?_
 have hi:=i.le;have K:J6 i.s<=100000000:=by rw[i.h];exact EM (P:=λy=>J6 y<=100000000) QBa _ _ hz.1 λy hy=>by obtain⟨p,hp,rfl⟩:=List.mem_map.1 (eX hy);exact hz.2 p hp
 refine wA 6 I ?_;refine QP I (λhc=>?_) λhc=>?_
 ·have b:i.i<ps.length:=wg<|QOW hc
  have g:=Qy b;have H:=hz.2 _ g;have z:el (ps.map (·.2)) i.i=(el ps i.i).2:=by rw[JB (by simpa using b),JB b];simp
  refine QOn 6 I<|QA (Qs (n:=n) i.i (λF h9=>h9.1.2.1) rfl rfl Zg Qm O)<|QA (J0 (n:=n) (vs:=[.int .i64 (el ps i.i).1.n.s,.slice (el ps i.i).1.n.q (el ps i.i).1.n.n (el ps i.i).1.n.cap,.int .i64 (el ps i.i).1.d.s,.slice (el ps i.i).1.d.q (el ps i.i).1.d.n (el ps i.i).1.d.cap]) ((i.i)*4) (λF h9=>h9.1.2.1) O rfl Qm I λj v hv=>JX (f:=(λe=>GN e.1)) (l:=ps) (λ_=>rfl) O hv)<|Qe Yu λb6=>QV (vs:=[_,_,_,_]) I I I Qm I .here .h4 wV<|QMt<|QNz<|QA (wJ I Qm .here)<|QA (wJ I Qm .u2)<|QL I (λ_ _ f k=>Al (x:=(el ps i.i).1) (y:=i.x) (r:=(el ps i.i).2) (s:=i.s) f (k.1.2.2 _ g) k.2 H K) λ_=>QOm 3 I ?_
  refine QP I (λhc=>?_) λhc=>?_
  ·have a:=QOW hc;refine QB<|QA (wJ I Qm .here)<|QV (vs:=[_,_,_,_]) I I I Qm I .u2 .h4 wV<|QE<|Qf<|QD<|QB<|QA (Qk I I O)<|wB 2 I ?_
   exact Qh (⟨i.i+1,(el ps i.i).1,(el ps i.i).2,O,by rw[<-i.step O,z];unfold dD;rw[if_pos a]⟩) (by show n-(i.i+1)<n-i.i;omega) wW (.cons _ QNG) λF ⟨⟨⟨U,E,o⟩,X⟩,_⟩=>⟨⟨U,E,o⟩,o _ g⟩
  have a:=QOX hc;refine QN<|Qf<|QD<|QB<|QA (Qk I I O)<|wB 2 I ?_
  exact Qh (⟨i.i+1,i.x,i.s,O,by rw[<-i.step O,z];unfold dD;rw[if_neg a]⟩) (by show n-(i.i+1)<n-i.i;omega) wW (.cons _ QNG) λF ⟨⟨⟨U,E,o⟩,X⟩,_⟩=>⟨⟨U,E,o⟩,X⟩
 have L:i.i=(ps.map (·.2)).length:=wg<|QOX hc
 refine Q7 ?_;refine QNz<|QA (wJ I Qm .u1)<|QV (vs:=[_,_,_,_]) I I I Qm I .here .h4 wV<|QMt<|QW ?_
 exact QO (i.x) rfl (.Jo (c:=[_,_,_,_]) I Qm .here .nil) (rfl) λF h=>by rw[<-i.end_ L];exact h.2
theorem Bk{x:Fr}{r:Rat}{q:Option Addr}{ps:List (Fr×Rat)}(hF:Fits F w)(h:Ja F x r)(E:Qz F q n 4 (ps.flatMap λe=>GN e.1))(o:∀p∈ps,Ja F p.1 p.2)(Y:ps.length=n)(hb:n<=1000000)(hz:J6 r<=100000000/\∀p∈ps,J6 p.2<=100000000):
  ZE prog 214 [x.v,.slice q n c] w F ((ps.map (·.2)).foldl pB r):=by
 have hml:(ps.map (·.2)).length=n:=by simpa using Y
 dsimp only[Fr.v];refine QU.intro (G:=λF=>Ja F x r/\Qz F q n 4 (ps.flatMap λe=>GN e.1)/\(∀p∈ps,Ja F p.1 p.2)) func214 rfl wm rfl rfl hF (λF' m=>⟨h.le m,E.le m,λp hp=>(o p hp).le m⟩)<|QNz<|Qv rfl (vs:=[_,_,_,_]) rfl λb2=>Qe Yu λb4=>QMt<|QG<|wR rfl<|QA (Qb rfl Zg)<|QMu rfl<|QMt<|QQ<|Jf (ι:=LgI pB r (ps.map (·.2))) [(2,_),(4,_),(7,_),(8,_)] (λi=>[(9,.int .i64 ((i.i:Nat):Int))]) (λi=>[(b4,.cells [.int .i64 0,.slice none 0 0,.int .i64 0,.slice none 0 0].toArray 87 (0,0)),(b2,.cells [.int .i64 i.x.n.s,.slice i.x.n.q i.x.n.n i.x.n.cap,.int .i64 i.x.d.s,.slice i.x.d.q i.x.d.n i.x.d.cap].toArray 87 (0,0))]) (λi F=>Ja F i.x i.s) (λi=>n-i.i) (⟨0,x,r,aq _,rfl⟩) wV wS QNG w7 λi=>?_
 have hi:=i.le;have K:J6 i.s<=100000000:=by rw[i.h];exact EM (P:=λy=>J6 y<=100000000) QBy _ _ hz.1 λy hy=>by obtain⟨p,hp,rfl⟩:=List.mem_map.1 (eX hy);exact hz.2 p hp
 refine wA 6 I ?_;refine QP I (λhc=>?_) λhc=>?_
 ·have b:i.i<ps.length:=wg<|QOW hc
  have g:=Qy b;have H:=hz.2 _ g;have z:el (ps.map (·.2)) i.i=(el ps i.i).2:=by rw[JB (by simpa using b),JB b];simp
  refine QOn 6 I<|QA (Qs (n:=n) i.i (λF h9=>h9.1.2.1) rfl rfl Zg Qm O)<|QA (J0 (n:=n) (vs:=[.int .i64 (el ps i.i).1.n.s,.slice (el ps i.i).1.n.q (el ps i.i).1.n.n (el ps i.i).1.n.cap,.int .i64 (el ps i.i).1.d.s,.slice (el ps i.i).1.d.q (el ps i.i).1.d.n (el ps i.i).1.d.cap]) ((i.i)*4) (λF h9=>h9.1.2.1) O rfl Qm I λj v hv=>JX (f:=(λe=>GN e.1)) (l:=ps) (λ_=>rfl) O hv)<|Qe Yu λb6=>QV (vs:=[_,_,_,_]) I I I Qm I .here .h4 wV<|QMt<|QNz<|QA (wJ I Qm .here)<|QA (wJ I Qm .u2)<|QL I (λ_ _ f k=>Al (x:=(el ps i.i).1) (y:=i.x) (r:=(el ps i.i).2) (s:=i.s) f (k.1.2.2 _ g) k.2 H K) λ_=>QOm 3 I ?_
  refine QP I (λhc=>?_) λhc=>?_
  ·have a:=QOW hc;refine QB<|QA (wJ I Qm .here)<|QV (vs:=[_,_,_,_]) I I I Qm I .u2 .h4 wV<|QE<|Qf<|QD<|QB<|QA (Qk I I O)<|wB 2 I ?_
   exact Qh (⟨i.i+1,(el ps i.i).1,(el ps i.i).2,O,by rw[<-i.step O,z];unfold pB;rw[if_pos a]⟩) (by show n-(i.i+1)<n-i.i;omega) wW (.cons _ QNG) λF ⟨⟨⟨U,E,o⟩,X⟩,_⟩=>⟨⟨U,E,o⟩,o _ g⟩
  have a:=QOX hc;refine QN<|Qf<|QD<|QB<|QA (Qk I I O)<|wB 2 I ?_
  exact Qh (⟨i.i+1,i.x,i.s,O,by rw[<-i.step O,z];unfold pB;rw[if_neg a]⟩) (by show n-(i.i+1)<n-i.i;omega) wW (.cons _ QNG) λF ⟨⟨⟨U,E,o⟩,X⟩,_⟩=>⟨⟨U,E,o⟩,X⟩
 have L:i.i=(ps.map (·.2)).length:=wg<|QOX hc
 refine Q7 ?_;refine QNz<|QA (wJ I Qm .u1)<|QV (vs:=[_,_,_,_]) I I I Qm I .here .h4 wV<|QMt<|QW ?_
 exact QO (i.x) rfl (.Jo (c:=[_,_,_,_]) I Qm .here .nil) (rfl) λF h=>by rw[<-i.end_ L];exact h.2
structure QCe(a b:List Int) where
 i:Nat
 le:i<=a.length
 h:Zj a b=Zj (a.drop i) (b.drop i)
theorem QCe.step{a b:List Int}(s:QCe a b)(h1:s.i<a.length)(h2:s.i<b.length):Zj a b=(decide (Qg b s.i<Qg a s.i)||(decide (Qg a s.i=Qg b s.i)&&Zj (a.drop (s.i+1)) (b.drop (s.i+1)))):=by
 rw[s.h,XC h1,XC h2];rfl
theorem Wc{r:Sr}(h:Fits F w)(b:JG F r l)(hp:PW l):QX prog 56 [r.v] w F (.int .i64 l.sum):=by
 obtain⟨q,n,c⟩:=r;have d:=b.2.1;dsimp only[Sr.v]at d ⊢;have f:=hp.2;refine QU.go (G:=λF=>JG F ⟨q,n,c⟩ l) func56 h b ?_;refine wA 17 I<|J2 (ι:={i:Nat // i<=l.length}) [(0,_)] (λi=>[(3,.int .i64 ((l.take i.1).sum)),(4,.int .i64 ((i.1:Nat):Int))]) (λi=>l.length-i.1) (⟨0,aq _⟩) wS wT λi=>?_
 have hi:=i.2;have j:=hp.sum i.1 hi;refine wA 5 I<|QA (Qb I Qd)<|QOm 3 I ?_
 refine QP I (λhc=>?_) λhc=>?_
 ·have a:i.1<l.length:=wg<|QOW hc
  have he:=hp.el a;refine QOn 8 I<|QA (Qs (n:=n) (i.1) (λF b=>(b).1) rfl rfl Qd Qo O)<|QA (Qu (n:=n) ((i.1)*1) (λF b=>(b).1) O rfl Qo (JN (o:=l) O))<|QA (Qk I I O)<|wB 2 I<|Qf<|QOo 3 I<|QA (Qk I I O)<|wB 2 I ?_
  exact Qh (⟨i.1+1,a⟩) (by show l.length-(i.1+1)<l.length-i.1;omega) ⟨rfl,(congrArg (λz:Int=>some (ah .i64 z)) (Nu a).symm),rfl,trivial⟩ QNG w6
 have g:i.1=l.length:=wg<|QOX hc
 refine Q7 ?_;refine wA 7 I ?_;exact QO2 I I (congrArg (ah .i64) (by rw[bF O])) wy
theorem CB{q m:Option Addr}{d c2:Nat}{a b:List Int}(L:Fits F w)(H:JG F ⟨q,n,c⟩ a)(E:JG F ⟨m,d,c2⟩ b)(x:PW a)(z:PW b)(U:a.length=b.length):QX prog 119 [.slice q n c,.slice m d c2] w F (.bool (before a b)):=by
 have K:=H.2.1;have nb:=E.2.1;dsimp only at K nb;have la:=x.2;refine QU.go (G:=λF=>JG F ⟨q,n,c⟩ a/\JG F ⟨m,d,c2⟩ b) func119 L ⟨H,E⟩ ?_;refine wA 9 I<|QL I (λ_ _ f k=>Wc f (r:=⟨q,n,c⟩) k.1 (x)) λ_=>QMu I<|QL I (λ_ _ f k=>Wc f (r:=⟨m,d,c2⟩) k.1.2 (z)) λ_=>QOm 3 I ?_
 refine QP I (λhc=>?_) λhc=>?_
 ·have g:=bne_iff_ne.1 hc;refine wR I<|QL I (λ_ _ f k=>Wc f (r:=⟨q,n,c⟩) k.1.1.1 (x)) λ_=>QMu I<|QL I (λ_ _ f k=>Wc f (r:=⟨m,d,c2⟩) k.1.1.1.2 (z)) λ_=>QOm 5 I ?_
  exact QO2 I I (congrArg ae (by unfold before;rw[decide_eq_false g,Bool.false_and,Bool.or_false])) wy
 have g:=bne_eq_false_iff_eq.1 hc;refine QOn 9 I<|J2 (ι:=QCe a b) [(0,_),(1,_)] (λi=>[(5,.int .i64 ((i.i:Nat):Int))]) (λi=>a.length-i.i) (⟨0,aq _,rfl⟩) wT wS λi=>?_
 have hi:=i.le;refine wA 5 I<|QA (Qb I Qd)<|QOm 3 I ?_
 refine QP I (λhc=>?_) λhc=>?_
 ·have j:i.i<a.length:=wg<|QOW hc
  refine QOn 5 I<|JO QNG mixed wi<|QK (QC I)<|QK (QC I)<|QK (Qs (n:=n) i.i (λF h9=>(h9.1.1.1).1) rfl rfl Qd Qo O)<|QK (Qu (n:=n) ((i.i)*1) (λF h9=>(h9.1.1.1).1) O rfl Qo (JN (o:=a) O))<|QK (QC I)<|QK (QC I)<|QK (Qs (n:=d) i.i (λF h9=>(h9.1.1.2).1) rfl rfl Qd Qo O)<|QK (Qu (n:=d) ((i.i)*1) (λF h9=>(h9.1.1.2).1) O rfl Qo (JN (o:=b) O))<|QK (QM I I I)<|Qw<|QD ?_
  refine QP I (λhc=>?_) λhc=>?_
  ·have he:=bne_iff_ne.1 hc;refine QG<|JO QNG mixed wi<|QK (QC I)<|QK (QC I)<|QK (Qs (n:=n) i.i (λF h9=>(h9.1.1.1).1) rfl rfl Qd Qo O)<|QK (Qu (n:=n) ((i.i)*1) (λF h9=>(h9.1.1.1).1) O rfl Qo (JN (o:=a) O))<|QK (QC I)<|QK (QC I)<|QK (Qs (n:=d) i.i (λF h9=>(h9.1.1.2).1) rfl rfl Qd Qo O)<|QK (Qu (n:=d) ((i.i)*1) (λF h9=>(h9.1.1.2).1) O rfl Qo (JN (o:=b) O))<|QK (QM I I I)<|QK (QF I)<|Qw<|QD<|X4 ?_
   exact QO2 I I (congrArg ae (by unfold before;rw[i.step j O,decide_eq_false he,g];simp)) wy
  have he:=bne_eq_false_iff_eq.1 hc;refine QN<|Qf<|QOo 3 I<|QA (Qk I I O)<|wB 2 I ?_
  exact Qh (⟨i.i+1,j,by rw[i.step j O,he];simp⟩) (by show a.length-(i.i+1)<a.length-i.i;omega) wU QNG w6
 have y:i.i=a.length:=wg<|QOX hc
 refine Q7 ?_;refine wA 6 I ?_;exact QO2 I I (congrArg ae (by unfold before;rw[i.h,y,bI (bm _),g];simp[Zj])) wy
theorem F7{v:Int}(h1:(l.length:Int)=v+1)(h2:∀k∈l,0<=k):ZL f l v=if decide (Vx l>12)=true then 4 else JW f:=by
 unfold ZL;rw[if_neg (λh=>h h1),if_neg (kH h2)];simp only[Qn];by_cases g:decide (Vx l>12)=true
 ·rw[if_pos g,if_pos g,if_neg wj]
 rw[if_neg g,if_neg g,if_pos rfl];by_cases k:JW f=0
 ·rw[k];rfl
 rw[if_neg k]
theorem RF{q:Option Addr}{v:Int}(L:Fits F w)(E:JU F)(H:JG F ⟨q,n,cap⟩ l)(K:f.length<=9223372036854775807)(U:l.length<=9223372036854775807)(hv : -1000000<=v/\v<=1000000):QX prog 117 [.agg #[tx f,.slice q n cap],.int .i64 v] w F (.int .i64 (ZL f l v)):=by
 have b:l.length=n:=H.2.1;refine QU.go (G:=λF=>JU F/\JG F ⟨q,n,cap⟩ l) func117 L ⟨E,H⟩ ?_;refine QNz<|Qv I (vs:=[_,_]) I λb2=>QOm 6 I<|QA (QH I Z7 Qx)<|QA (Qa I Qx .here (.skip .h1))<|QA (Qb I Qd)<|QMu I<|QA (Qk I I O)<|QOm 3 I ?_
 refine QP I (λhc=>?_) λhc=>?_
 ·have y:=bne_iff_ne.1 hc;refine wA 6 I ?_;exact QO2 I I (congrArg (ah .i64) (by unfold ZL;rw[if_pos (by rw[b];exact y)])) wy
 have x:=bne_eq_false_iff_eq.1 hc;refine QOn 14 I<|J2 (ι:=QG5 l) [(2,_)] (λi=>[(5,.int .i64 (Vx (l.take i.i))),(6,.int .i64 ((i.i:Nat):Int))]) (λi=>l.length-i.i) (⟨0,aq _,wu⟩) wS wT λi=>?_
 have hi:=i.le;have hb:=Bt _ i.nn;rw[bU]at hb;refine wA 4 I<|QA (QH I Z7 Qx)<|QA (Qa I Qx .here (.skip .h1))<|QA (Qb I Qd)<|QOm 3 I ?_
 refine QP I (λhc=>?_) λhc=>?_
 ·have a:i.i<l.length:=wg<|QOW hc
  refine QOn 7 I<|QA (QH I Z7 Qx)<|QA (Qa I Qx .here (.skip .h1))<|QMu I<|QA (Qs (n:=n) i.i (λF h9=>(h9.2).1) rfl rfl Qd Qo O)<|QA (Qu (n:=n) ((i.i)*1) (λF h9=>(h9.2).1) O rfl Qo (JN (o:=l) O))<|QOm 3 I ?_
  refine QP I (λhc=>?_) λhc=>?_
  ·have j:=QOW hc;refine wA 5 I<|X4 ?_
   exact QO2 I I (congrArg (ah .i64) (by unfold ZL;rw[if_neg (by rw[b];exact λh=>h x),if_pos (Oe a j)])) wy
  have j:=QOX hc;refine QOn 4 I<|QA (QH I Z7 Qx)<|QA (Qa I Qx .here (.skip .h1))<|QMu I<|QA (Qs (n:=n) i.i (λF h9=>(h9.2).1) rfl rfl Qd Qo O)<|QA (Qu (n:=n) ((i.i)*1) (λF h9=>(h9.2).1) O rfl Qo (JN (o:=l) O))<|QA (xh I I)<|QA (Qk I I O)<|wB 2 I<|Qf<|QOo 3 I<|QA (Qk I I O)<|wB 2 I ?_
  exact Qh (⟨i.i+1,a,by intro k hk;rw[Zb a]at hk;rcases List.mem_append.1 hk with hk | hk;exact i.nn k hk;rw[List.mem_singleton.1 hk,<-K7 a];omega⟩) (by show l.length-(i.i+1)<l.length-i.i;omega) ⟨rfl,(congrArg (λz:Int=>some (ah .i64 z)) (SQ a).symm),rfl,trivial⟩ QNG w6
 have m:i.i=l.length:=wg<|QOX hc
 refine Q7 ?_;refine wA 3 I ?_;rw[m,bw];have g:=i.nn;rw[m,bw]at g;have d:=F7 (f:=f) (v:=v) (by rw[b];exact x) g;refine QOm 4 I ?_;refine QP I (λhc=>?_) λhc=>?_
 ·have c:=hc;refine wA 6 I ?_;exact QO2 I I (congrArg (ah .i64) (by rw[d,if_pos c])) wy
 have c:=hc;refine QOn 4 I<|QA (QH I Ga JQ)<|QA (Qa I JQ .here .h1)<|QL I (λ_ _ f k=>Rr f (K)) λ_=>wQ I<|QW ?_
 exact QO2 I I (congrArg (ah .i64) (by rw[d,c];rfl)) wy
section
variable{ps:List Ng}{v:Int}{i:Nat}
theorem QJq(h:i<ps.length)(he:ZL (el ps i).f (el ps i).k v≠0):VT (VJ ps) v i=ZL (el ps i).f (el ps i).k v:=by
 have e:Qn [ZL (el ps i).f (el ps i).k v,if((el ps i).f==[48])=true then 6 else 0]=ZL (el ps i).f (el ps i).k v:=by
  unfold Qn;rw[if_neg he]
 rw[step_eq h e,if_neg (λg=>he g.1)]
theorem QJp(h:i<ps.length)(he:ZL (el ps i).f (el ps i).k v=0)(hz:((el ps i).f==[48])=true):VT (VJ ps) v i=6:=by
 have e:Qn [ZL (el ps i).f (el ps i).k v,if((el ps i).f==[48])=true then 6 else 0]=6:=by
  rw[he,if_pos hz];rfl
 rw[step_eq h e,if_neg (λg=>wg g.1)]
theorem j8(h:i<ps.length)(he:ZL (el ps i).f (el ps i).k v=0)(hz:((el ps i).f==[48])=false):VT (VJ ps) v i=if 0<i/\before (el ps (i-1)).k (el ps i).k=false then 11 else 0:=by
 have e:Qn [ZL (el ps i).f (el ps i).k v,if((el ps i).f==[48])=true then 6 else 0]=0:=by
  rw[he,hz];rfl
 rw[step_eq h e];have hb:(0<=Wo (el ps (i-1)).k (el ps i).k)↔before (el ps (i-1)).k (el ps i).k=false:=by
  rw[W8,decide_eq_false_iff_not];omega
 by_cases g:0<i/\before (el ps (i-1)).k (el ps i).k=false
 ·rw[if_pos g,if_pos ⟨rfl,g.1,hb.2 g.2⟩]
 rw[if_neg g,if_neg (λh=>g ⟨h.2.1,hb.1 h.2.2⟩)]
end
theorem Ej{q:Option Addr}{v:Int}(hF:Fits F w)(hGl:JU F)(hR:Qz F q n 2 (ps.flatMap EX))(hP:Wp F ps)(L:ps.length=n)(hf:∀t∈ps,t.f.length<=9223372036854775807/\t.k.length<=9223372036854775807)(hl:ps.length<=9223372036854775807)(hv:0<=v/\v<=24):QX prog 55 [.slice q n cap,.int .i64 v] w F (.int .i64 (ZY (VJ ps) v)):=by
 have y:(VJ ps).length=n:=by unfold VJ;rw[af];exact L
 refine QU.go (G:=λF=>JU F/\Qz F q n 2 (ps.flatMap EX)/\Wp F ps) func55 hF ⟨hGl,hR,hP⟩ ?_;refine wA 9 I<|QA (Qb I Y1)<|QOm 3 I ?_
 refine QP I (λhc=>?_) λhc=>?_
 ·have d:=hc;refine wA 6 I ?_;exact QO2 I I (congrArg (ah .i64) (by unfold ZY;rw[y,if_pos d])) wy
 have d:=QOX hc;refine QOn 9 I<|J2 (ι:=qR (VJ ps) v n) [(0,_),(1,_)] (λi=>[(5,.int .i64 ((i.i:Nat):Int))]) (λi=>n-i.i) (⟨0,aq _,λj U=>absurd U (eI _)⟩) wT wS λi=>?_
 have hi:=i.le;refine wA 5 I<|QA (Qb I Y1)<|QOm 3 I ?_
 refine QP I (λhc=>?_) λhc=>?_
 ·have x:i.i<n:=wg<|QOW hc
  have E:el ps i.i∈ps:=Qy O;refine QOn 8 I<|QA (Qs (n:=n) i.i (λF h9=>h9.2.1) rfl rfl Y1 Z3 O)<|QA (J0 (n:=n) (vs:=[tx (el ps i.i).f,.slice (el ps i.i).r.q (el ps i.i).r.n (el ps i.i).r.cap]) ((i.i)*2) (λF h9=>h9.2.1) O rfl Z3 I λj v hv=>JX (f:=EX) (l:=ps) KJ O hv)<|QMu I<|QL I (λ_ _ g h=>RF g (h.1) (f:=(el ps i.i).f) (l:=(el ps i.i).k) (h.2.2 _ E) ((hf _ E).1) ((hf _ E).2) O) λ_=>QOm 10 I ?_
  refine QP I (λhc=>?_) λhc=>?_
  ·have c:=bne_iff_ne.1 hc;refine wA 6 I<|X4 ?_
   exact QO2 I I (congrArg (ah .i64) (Wv y d i x (QJq O c) c)) wy
  have c:=bne_eq_false_iff_eq.1 hc;refine QOn 7 I<|QA (Qs (n:=n) i.i (λF h9=>h9.1.2.1) rfl rfl Y1 Z3 O)<|QA (QH I Ga JQ)<|QA (Qu (n:=n) ((i.i)*2+0) (λF h9=>h9.1.2.1) O rfl JQ (JX (f:=EX) (l:=ps) KJ O rfl))<|QL I (λ_ _ f k=>gF f ) λ_=>QE<|QD ?_
  refine QP I (λhc=>?_) λhc=>?_
  ·have m:=hc;refine wA 5 I<|X4 ?_
   exact QO2 I I (congrArg (ah .i64) (Wv y d i x (QJp O c m) wj)) wy
  have m:=hc;refine QOn 3 I<|JO QNG mixed wi<|QK (QC I)<|QK (QM I I I)<|QK (QC I) ?_
  refine Vl (t:=33) rfl (λo=>?_) λo=>?_
  ·have X:0<i.i:=wg<|QOW o
   have H:=(D7 (i.z (i.i-1) O)).1;rw[Tq (show i.i-1<ps.length by omega)]at H;have K:el ps (i.i-1)∈ps:=Qy O;refine JF I I<|QK (QC I)<|JF I I<|QK (QC I)<|JF I I<|QK (Jv I I O)<|JF I I<|QK (Qs (n:=n) ((i.i-1)) (λF h9=>h9.1.1.2.1) rfl wM Y1 Z3 O)<|JF I I<|QK (QH I Z7 Qx)<|JF I I<|QK (Qu (n:=n) (((i.i-1))*2+1) (λF h9=>h9.1.1.2.1) O rfl Qx (JX (f:=EX) (l:=ps) KJ O rfl))<|JF I I<|QK (QC I)<|JF I I<|QK (QC I)<|JF I I<|QK (Qs (n:=n) i.i (λF h9=>h9.1.1.2.1) rfl rfl Y1 Z3 O)<|JF I I<|QK (QH I Z7 Qx)<|JF I I<|QK (Qu (n:=n) ((i.i)*2+1) (λF h9=>h9.1.1.2.1) O rfl Qx (JX (f:=EX) (l:=ps) KJ O rfl))<|JF I I<|QZ I (λ_ _ f h=>CB f (a:=(el ps (i.i-1)).k) (b:=(el ps i.i).k) (h.1.1.2.2 _ K) (h.1.1.2.2 _ E) (Y9 H hv.2) (Y9 c hv.2) (by have h1:=(KR H).1;have h2:=(KR c).1;dsimp only at h1;omega)) λ_=>JF I I<|QK (Jw I)<|QK (QT I I I)<|Qw<|QD ?_
   refine QP I (λhc=>?_) λhc=>?_
   ·refine wA 5 I<|X4 ?_
    exact QO2 I I (congrArg (ah .i64) (Wv y d i x (by rw[j8 O c m,if_pos ⟨X,by simpa using hc⟩]) wj)) wy
   refine QN<|Qf<|QOo 3 I<|QA (Qk I I O)<|wB 2 I ?_
   exact Qh (⟨i.i+1,x,λj U=>by
    rcases aD j i.i with g | g
    ·exact i.z j g
    rw[show j=i.i from by omega];first | (rw[j8 O c m,if_neg (λh=>wg<|QOX o)]) | (rw[j8 O c m,if_neg (λh=>by rw[h.2]at hc;cases hc)])⟩) (by show n-(i.i+1)<n-i.i;omega) wU QNG λF h=>h.1.1.1
  refine Q6 I I I<|Q6 I I I<|Q6 I I I<|Q6 I I I<|Q6 I I I<|Q6 I I I<|Q6 I I I<|Q6 I I I<|Q6 I I I<|Q6 I I I<|Q6 I I I<|Q6 I I I<|Q6 I I I<|QK (QS I I I)<|Qw<|QD<|Zq I<|QN<|Qf<|QOo 3 I<|QA (Qk I I O)<|wB 2 I ?_
  exact Qh (⟨i.i+1,x,λj U=>by
    rcases aD j i.i with g | g
    ·exact i.z j g
    rw[show j=i.i from by omega];first | (rw[j8 O c m,if_neg (λh=>wg<|QOX o)]) | (rw[j8 O c m,if_neg (λh=>by rw[h.2]at hc;cases hc)])⟩) (by show n-(i.i+1)<n-i.i;omega) wU QNG λF h=>h.1.1
 have Y:n<=i.i:=wg<|QOX hc
 refine Q7 ?_;refine wA 6 I ?_;exact QO2 I I (congrArg (ah .i64) (Ua y d i Y)) wy
theorem p5(a:List Ng):(VJ a).length=a.length:=by simp[VJ]
structure Dp{α:Type}(l:List α)(p:α->Bool) where
 i:Nat
 le:i<=l.length
 z:∀x∈l.take i,p x=false
section
variable{α:Type}[Inhabited α]{l:List α}{p:α->Bool}
def Dp.start(l:List α)(p:α->Bool):Dp l p:=⟨0,aq _,wu⟩
def Dp.next(s:Dp l p)(h:s.i<l.length)(e:p (el l s.i)=false):Dp l p:=⟨s.i+1,h,λx hx=>by
 rw[Zb h]at hx;rcases List.mem_append.1 hx with hx | hx
 ·exact s.z x hx
 rw[List.mem_singleton.1 hx];exact e⟩
theorem Dp.hit(s:Dp l p)(h:s.i<l.length)(e:p (el l s.i)=true):l.any p=true:=List.any_eq_true.2 ⟨_,Qy h,e⟩
theorem Dp.stop(s:Dp l p)(h:l.length<=s.i):¬l.any p=true:=by
 rw[fi];rintro⟨x,hx,e⟩;have:=s.z x (by rw[bF h];exact hx);rw[this]at e;cases e
end
theorem Ts(ps:List Ng)(q:List UInt8×List Int->Bool):(VJ ps).any q=ps.any λt=>q (t.f,t.k):=by unfold VJ;rw[List.any_map];rfl
def pJ(p:Pt)(v a b c:Int):Bool:=if(p.length:Int)>a\/ZY p v≠0 then false else !(p.any λx=>decide (x.2.sum>b)||!(WL x.1 c))
theorem qi{q:Option Addr}{v a b c:Int}(hF:Fits F w)(L:JU F)(hR:Qz F q n 2 (ps.flatMap EX))(hP:Wp F ps)(K:ps.length=n)(hf:∀t∈ps,t.f.length<=9223372036854775807/\t.k.length<=9223372036854775807)(hl:ps.length<=9223372036854775807)(hv:0<=v/\v<=24)(Y:0<=c/\c<=1000000):QX prog 21 [.slice q n cap,.int .i64 v,.int .i64 a,.int .i64 b,.int .i64 c] w F (.bool (pJ (VJ ps) v a b c)):=by
 have z:(VJ ps).length=n:=by rw[p5];exact K
 refine QU.go (G:=λF=>JU F/\Qz F q n 2 (ps.flatMap EX)/\Wp F ps) func21 hF ⟨L,hR,hP⟩ ?_;refine wA 9 I<|QA (Qb I Y1)<|wB 3 I ?_
 refine QY (t:=16) rfl (λo=>?_) λo=>?_
 ·have x:=QOW o;refine QOm 7 I<|WV I<|wA 6 I ?_
  exact QO2 I I (congrArg ae (by unfold pJ;rw[z,if_pos (Or.inl x)])) wy
 have x:=QOX o;refine wB 5 I<|QL I (λ_ _ f k=>Ej f (k.1) (k.2.1) (k.2.2) (K) (hf) (hl) (hv)) λ_=>QOm 5 I ?_
 refine QP I (λd=>?_) λd=>?_
 ·have j:=bne_iff_ne.1 d;refine wA 6 I ?_;exact QO2 I I (congrArg ae (by unfold pJ;rw[if_pos (Or.inr j)])) wy
 have j:=bne_eq_false_iff_eq.1 d;have H:=Rc j;have U:∀t∈ps,PW t.k:=λt ht=>Y9 (H.term (t.f,t.k) (List.mem_map.2 ⟨t,ht,rfl⟩)) hv.2;refine QOn 9 I<|J2 (ι:=Dp ps λt=>decide (t.k.sum>b)||!(WL t.f c)) [(0,_),(3,_),(4,_)] (λi=>[(11,.int .i64 ((i.i:Nat):Int))]) (λi=>ps.length-i.i) (Dp.start _ _) wU wS λi=>?_
 have hi:=i.le;refine wA 5 I<|QA (Qb I Y1)<|QOm 3 I ?_
 refine QP I (λd=>?_) λd=>?_
 ·have y:i.i<ps.length:=wg<|QOW d
  have E:=Qy y;refine QOn 8 I<|QA (Qs (n:=n) i.i (λF h9=>h9.1.2.1) rfl rfl Y1 Z3 O)<|QA (QH I Z7 Qx)<|QA (Qu (n:=n) ((i.i)*2+1) (λF h9=>h9.1.2.1) O rfl Qx (JX (f:=EX) (l:=ps) KJ O rfl))<|QL I (λ_ _ f k=>Wc f (r:=(el ps i.i).r) (k.1.2.2 _ E) (U _ E)) λ_=>wB 3 I ?_
  refine QY (t:=36) rfl (λm=>?_) λm=>?_
  ·refine QOm 11 I<|WV I<|wA 5 I<|X4 ?_
   exact QO2 I I (congrArg ae (by unfold pJ;rw[z,if_neg (λh=>h.elim x λg=>g j),Ts,i.hit y (by rw[m];rfl)];rfl)) wy
  refine wB 5 I<|QA (Qs (n:=n) i.i (λF h9=>h9.1.1.2.1) rfl rfl Y1 Z3 O)<|QJ I I<|QA (QH I Ga JQ)<|QJ I I<|QA (Qu (n:=n) ((i.i)*2+0) (λF h9=>h9.1.1.2.1) O rfl JQ (JX (f:=EX) (l:=ps) KJ O rfl))<|wB 3 I<|QL I (λw F hF ⟨⟨⟨L,hR,hP⟩,_⟩,_⟩=>QA6 hF (by have h8:JW (el ps i.i).f=0:=(KR (H.term ((el ps i.i).f,(el ps i.i).k) (List.mem_map.2 ⟨el ps i.i,E,rfl⟩))).2.2.2;have h9:=WA (Jr (el ps i.i).f);rw[<-(XW h8).1]at h9;have h10:=Yx h8;omega) (Y)) λ_=>QJ I I<|QA (Jw I)<|QOm 3 I ?_
  refine QP I (λd=>?_) λd=>?_
  ·refine wA 5 I<|X4 ?_
   exact QO2 I I (congrArg ae (by unfold pJ;rw[z,if_neg (λh=>h.elim x λg=>g j),Ts,i.hit y (by rw[d];simp)];rfl)) wy
  refine QN<|Qf<|QOo 3 I<|QA (Qk I I O)<|wB 2 I ?_
  exact Qh (i.next y (by rw[m,fB];exact d)) (by show ps.length-(i.i+1)<ps.length-i.i;omega) wV QNG λF h=>h.1.1
 have X:ps.length<=i.i:=wg<|QOX d
 refine Q7 ?_;refine wA 6 I ?_;exact QO2 I I (congrArg ae (by unfold pJ;rw[z,if_neg (λh=>h.elim x λg=>g j),Ts];simp only[i.stop X];rfl)) wy
def qk(a:List Px):List (List Tm):=a.map λe=>KP e.2
def OF(g:List Int->Rat):List Tm->Rat
 |[]=>0
 |t::l=>t.1*g t.2+OF g l
theorem cS(g:List Int->Rat)(p q:List Tm):OF g (p++q)=OF g p+OF g q:=by
 induction p with
 |nil=>simp[OF,Rat.zero_add]
 |cons t p ih=>simp only[bV,OF,ih,Rat.add_assoc]
theorem QAt{ts:List Zl}(h:i<ts.length):(el ts i).t=el (KP ts) i:=by rw[JB h,JB (by simpa[KP]using h)];simp[KP]
structure Open(F:Fence):Prop where
 fn:∀f,F.fn f
 depth:F.depth=none
 calls:∀ {n:Nat} {P:Program} {f:FuncId} {args:Array Value} {w:World} {R:Ending->World->Prop},Calls P f args w R->CallsIn F n P f args w R
 rows:∀ {n:Nat} {P:Program} {row:String} {args:Array Value} {w:World} {R:Value->World->Prop},Rows P row args w R->RowsIn F n P row args w R
theorem EE:Open aK where
 fn:=λ_=>trivial
 depth:=rfl
 calls:=λh=>callsIn_wide.2 h
 rows:=λh c cs _=>by
  obtain⟨v,w',h1,h2⟩:=h c cs;exact⟨v,w',h1,stepsIn_wide.2 h2⟩
theorem Bb(l:Nat):Open (Fence.wide.inRound l) where
 fn:=λ_=>trivial
 depth:=rfl
 calls:=λh=>(callsIn_wide.2 h:CallsIn aK _ _ _ _ _ _)
 rows:=λh=>EE.rows h
section
variable{F:Fence}{P:Program}
theorem Open.op(b:Open F){o:Oper}(d:∀c,o.op≠.defer c){a:Act}{w:World}{K j:Act->World->Prop}{i Q:Exit->Act->World->Prop}(hp:∀c a w,i (.panic c) a w->Q (.panic c) a w)(m:∀a w,i .outgrown a w->Q .outgrown a w)(g:∀a w,K a w->j a w)(h:o.wp P a w K i):o.wpIn F 0 P a w j Q:=by
 unfold Oper.wp at h;unfold Oper.wpIn;refine⟨λf _=>b.fn f,?_⟩;rw[eE F a.eval o d];generalize (execOp a.eval o).run P w=r at *
 have hd:F.depth.isSome=true->1<=0:=λe=>by rw[b.depth]at e;cases e
 cases r with
 |ok x w' =>
  cases x<;>simp only[fj,fK]at h ⊢ <;>
   first
    |exact g _ _ h
    |exact⟨hd,b.calls (h.mono λe k he=>by
      cases e with
      |returned u=>exact g _ _ he
      |panicked c=>exact hp _ _ _ he
      |outgrown=>obtain⟨a,w,h⟩:=he;exact⟨a,w,m _ _ h⟩)⟩
    |exact⟨hd,b.rows (h.mono λ_ _ he=>g _ _ he)⟩
 |halt x w'=>cases x<;>simp only[fj,fK]at h ⊢<;>exact hp _ _ _ h
def Mq(l:List Oper):Bool:=l.all λo=>match o.op with | .defer _=>false | _=>true
theorem Ib{o:Oper}(h:(match o.op with | .defer _=>false | _=>true)=true):∀c,o.op≠.defer c:=λc e=>by rw[e]at h;cases h
theorem Open.list(hF:Open F){ops:Array Oper}{Q:Exit->Act->World->Prop}(hQ:¬LetsOut Q):∀(l:List Oper) (a:Act) (w:World),Mq l=true->wpList P ops Q l a w->wpListIn F 0 P ops Q l a w
 |[],_,_,_,h=>h
 |o::rest,a,w,hd,h=>by
  simp only[Mq,List.all_cons,aS]at hd;unfold wpList at h;unfold wpListIn;split
  ·rename_i hw;rw[if_pos hw]at h;rcases h with h | ⟨_,h⟩
   ·exact hF.op (Ib hd.1) (λ_ _ _ h=>h) (λ_ _ h=>h) (λa w h=>hF.list hQ rest a w hd.2 h) h
   exact absurd h hQ
  rename_i hw;rw[if_neg hw]at h;exact⟨λf _=>hF.fn f,hF.list hQ rest _ _ hd.2 h⟩
end
section
variable[Dr][df:Df]{F:Fence}{P:Program}{Q:Exit->Act->World->Prop}{N:Nat}{m:Sl}{E:Env}
def JI(F:Fence)(P:Program)(c:Code)(Q:Exit->Act->World->Prop)(N:Nat)(m:Sl)(E:Env):Prop:=∀a w,JH N m a->St E w->c.wpIn F 0 P Q a w
theorem kV{b:Nat}{c:Code}(h:JI F P c (Exit.inBlock b Q) N m E):JI F P (.block b c) Q N m E:=λa w ha d=>wpIn_block (h a w ha d)
theorem Sc(f:Open F){b:Nat}{l:List Oper}(d:¬LetsOut Q)(hd:Mq l=true)(h:JS P l.toArray Q l N m E):JI F P (.region b l.toArray false) Q N m E :=
 λa w ha c=>wpIn_region_lit (f.list d l a w hd (h a w ha c))
section
variable{w0:World}{F0:Gs}{bs:List (Nat×Obj)}{G:Gs->Prop}{l:Nat}{r:Loop}{f:Obj->List (Nat×Obj)}
theorem St.put(h:St ⟨w0,F0,bs,G⟩ w){b:Nat}{o:Obj}(a:Obj)(d:Own bs b o f)(g:∀c fr,a≠.cells c 264 fr):St ⟨w0,F0,f a,G⟩ (w.putObj b a):=by
 obtain⟨pre,post,j,i⟩:=d.split;subst j;rw[i];exact h.write pre ⟨rfl,rfl,rfl,rfl,rfl⟩ g
theorem uN{g:Exit->Act->World->Prop}(d:Own bs l (.loop r) f)(hr:r.state = .ready)(k:JI F P body g N m ⟨w0,F0,f (.loop { r with state:=.busy }),G⟩):
  Fin (Exit.then (λa₁ w₁=>∃w₂,(fe l).run P w₁ = .ok () w₂/\body.wpIn F 0 P g a₁ w₂) λ_ _ _=>False) .normal N m ⟨w0,F0,bs,G⟩ :=
 λa w ha b=>⟨_,run_beginRound (b.own d) hr,k a _ ha (b.put _ d λc fr e=>by cases e)⟩
theorem uL(d:Own bs l (.loop r) f)(k:∀w,St ⟨w0,F0,f (.loop { r with state:=.ready,pending:=none }),G⟩ w->R (.returned (.bool true)) w):Fin (roundPost P l R) .normal N m ⟨w0,F0,bs,G⟩ :=
 λa w ha b=>⟨_,_,run_endRound none (b.own d),k _ (b.put _ d λc fr e=>by cases e)⟩
end
end
section
variable[Dr]{P:Program}{w0:World}{F0:Gs}{bs:List (Nat×Obj)}{G:Gs->Prop}{l:Nat}{r:Loop}{f:Obj->List (Nat×Obj)}
def Sy(r:Loop)(vs:Array Value):Act:={ tmps:=(r.params.zip vs).foldl (λtmps (t,a)=>tmps.setIfInBounds t a) r.tmps,defers:=[] }
theorem Fx{W:World}{vs:Array Value}(a:St ⟨w0,F0,bs,G⟩ W)(d:Own bs l (.loop r) f)(b:vs.size=r.params.size)(c:JH N m (Sy r vs))
  (h:JI (Fence.wide.inRound l) P r.assign (Exit.then (λa₁ w₁=>∃w₂,(fe l).run P w₁ = .ok () w₂/\r.body.wpIn (Fence.wide.inRound l) 0 P (roundPost P l R) a₁ w₂) λ_ _ _=>False) N m ⟨w0,F0,bs,G⟩) :
  YieldAt aK 0 P l vs W R :=
 ⟨_,_,_,_,run_yield (a.own d) b,roundIn_of_wpIn trivial (h _ W c a)⟩
end
section
variable[Dr][df:Df]{P:Program}{Q:Exit->Act->World->Prop}{N:Nat}{m:Sl}{E E0:Env}{ops:Array Oper}{l:List Oper}{w0:World}{F0:Gs}{bs:List (Nat×Obj)}{G:Gs->Prop}
def JSI(P:Program)(b:Array Oper)(Q:Exit->Act->World->Prop)(l:List Oper)(N:Nat)(m:Sl)(E:Env):Prop:=∀a w,JH N m a->St E w->wpListIn aK 0 P b Q l a w
theorem QCZ(c:¬LetsOut Q)(hd:Mq l=true)(h:JS P ops Q l N m E):JSI P ops Q l N m E:=λa w ha b=>EE.list c l a w hd (h a w ha b)
theorem qY{r:Nat}{args:Array Operand}{b:Array TypeId}{vs:List Value}{ty:TypeId}{pos:String}{aft:Array Edge}{E':ι->Env}(hx:ev m x=some (.func (.yield r) #[] #[]))(hv:Hk m args.toList=some vs)
  (hy:∀w,St E w->YieldAt aK 0 P r vs.toArray w λe w'=>e = .returned (.bool true)/\∃s,St (E' s) w')
  (k:∀s,JSI P ops Q l N ((d,.bool true)::m) (E' s)) (hd:Jx N (some d)=true:=by rfl):JSI P ops Q (⟨some d,.call ⟨.value x,args,b⟩,ty,pos,aft,none⟩::l) N m E:=by
 intro a w ha i;refine wpListIn_plain rfl λK y=>?_;obtain⟨fn,tmps,assign,h,hr,o⟩:=hy w i;refine⟨λf _=>trivial,?_⟩;have z:args.map a.eval=vs.toArray:=by rw[<-ha.Hk hv];apply fc;simp
 have g:(execOp a.eval ⟨some d,.call ⟨.value x,args,b⟩,ty,pos,aft,none⟩).run P w = .ok (.round r fn tmps assign h) w:=by
  simp only[execOp,resolve,ha.ev hx,Deferred.ofValue,eC,fJ,eu,invoke,z];simpa using hr
 rw[eE aK a.eval _ (λc e=>by cases e),g];refine⟨λe=>(by cases e),o.mono ?_⟩;rintro e w' ⟨rfl,s,j⟩;exact y _ _ (k s _ w' (ha.put hd (.bool true)) j)
end
section
variable[Dr]{P:Program}{Q:Exit->Act->World->Prop}{N:Nat}{m:Sl}{w0:World}{F0:Gs}{bs:List (Nat×Obj)}{G:Gs->Prop}
structure kQ(N:Nat)(m:Sl)(ps:Array Tmp)(assign body:Code)(r:Loop):Prop where
 state:r.state = .ready
 QHy:r.pending=none
 params:r.params=ps
 assign:r.assign=assign
 body:r.body=body
 QE4:JH (df:=Hi) N m { tmps:=r.tmps,defers:=[] }
theorem QU.QBu{f:FuncId}{fn:Func}{c:Code}{args:List Value}{γ:Type}{val:γ->Value}{a:γ->Gs->Prop}{G:Gs->Prop}(d:P.funcs[f]?=some fn)(hb:fn.body=some c)(j:(fn.name == "runtime.NumGoroutine")=false)(m:fn.ntmps=N)(k:Nat.ble args.length N=true)
  (i:Fits F w) (hg:∀F',Gs.le F F'->G F') (h:J (df:=Hi) P c (bodyPostM aK 0 P fn (Mf w F val a)) N (E9 0 args) ⟨w,F,[],G⟩):QU P f args w F val a:=by
 refine⟨enters_of d j (by rw[hb];rfl),callsIn_wide.1 (callsIn_of_wp_marks d hb trivial (wpIn_wide.2 (h _ w ⟨?_,rfl,λt v ht=>?_⟩ (St.start i hg))))⟩
 ·have:=Nat.le_of_ble_eq_true k;simp[m];omega
 obtain⟨_,h2⟩:=W4 args 0 t v ht;have b:t<args.length:=by rcases aD t args.length with g | g;exact g;rw[fG,List.getElem?_eq_none g]at h2;cases h2
 simp only[fG]at h2;rw[Array.getElem?_append,if_pos (by simpa using b)];simpa using h2
end
section
variable{P:Program}{e:TypeId}
theorem equal_txs{t:TypeId}{h g:Field}(ht:P.underlying t=some (.struct (P.fieldsOf t)))(hp:P.stoodInHeld t=false)(j:(P.fieldsOf t).toList=[h,g])(h1:h.name ≠ "_" /\ h.offset=0/\P.underlying h.type=some .string)(h2:g.name ≠ "_" /\ g.offset=1/\P.underlying g.type=some .string)(w:World)(a b c d:List UInt8):
  (Op.equal t (.agg #[tx a,tx b]) (.agg #[tx c,tx d])).run P w = .ok (decide (a=c)&&decide (b=d)) w:=by
 have i:∀(f:TypeId),P.underlying f=some .string->∀x y:List UInt8,(Op.equalIn 9999 f (tx x) (tx y)).run P w = .ok (decide (x=y)) w:=λf j x y=>by
  rw[show(9999:Nat)=9998+1 from rfl,show tx x = .string ⟨x.toArray⟩from rfl,show tx y = .string ⟨y.toArray⟩from rfl,run_equalIn_string w 9998 f _ _ j];congr 1;rw[eP,eP,aa];simp
 show(Op.equalIn (9999+1) t _ _).run P w=_;rw[run_equalIn_struct w 9999 t _ _ ht hp,j];have k:∀x y:List UInt8,(part h.type #[tx x,tx y] 0).run P w = .ok (tx x) w:=λx y=>by simp[part,isAgg,run_underlying h1.2.2]
 have p2:∀x y:List UInt8,(part g.type #[tx x,tx y] 1).run P w = .ok (tx y) w:=λx y=>by simp[part,isAgg,run_underlying h2.2.2]
 simp only[Op.eqFields,h1.1,h2.1,h1.2.1,h2.2.1,ne_eq,not_false_eq_true,if_true,eC,k,p2,i h.type h1.2.2,i g.type h2.2.2,eu];by_cases o:a=c<;>by_cases m:b=d<;>simp[o,m,p2,i g.type h2.2.2]
end
section
variable[Dr][df:Df]{P:Program}{Q:Exit->Act->World->Prop}{N:Nat}{m:Sl}{ops:Array Oper}{l:List Oper}{E E':Env}
theorem FT{bs':List (Nat×Obj)}{E0:Env}(hp:bs.Perm bs')(k:JD P ops Q E0 l N m ⟨w0,F0,bs',G⟩):JD P ops Q E0 l N m ⟨w0,F0,bs,G⟩:=λc a w ha b=>k (λw h=>c w (h.perm hp.symm)) a w ha (b.perm hp)
end
theorem IM{ps:Array Tmp}{r:Loop}(h:kQ N m ps assign body r):{ ({ r with state:=.busy }:Loop)with state:=.ready,pending:=none }=r:=by
 obtain⟨h1,h2,_,_,_,_⟩:=h;cases r;simp only at h1 h2;subst h1;subst h2;rfl
theorem O2:((prog.fieldsOf 41).toList.map λf=>(f.name,f.offset,f.type))=[("Low",0,27),("High",1,27)]:=wi
theorem IE:prog.underlying 41=some (.struct (prog.fieldsOf 41)):=wi
theorem O1:prog.stoodInHeld 41=false:=wi
theorem IF:prog.eqGuardType prog.depth 41=false:=wi
theorem Lw:prog.underlying 27=some .string:=wi
theorem F3{β:Type}{f:α->β}{l:List α}{x y:β}(h:l.map f=[x,y]):∃a b,l=[a,b]/\f a=x/\f b=y:=by
 match l,h with
 |[a,b],h=>simp only[aw,ey,List.cons.injEq,and_true]at h;exact⟨a,b,rfl,h.1,h.2⟩
theorem equal_span(w:World)(a b c d:List UInt8):(Op.equal 41 (.agg #[tx a,tx b]) (.agg #[tx c,tx d])).run prog w = .ok (decide (a=c)&&decide (b=d)) w:=by
 obtain⟨h,g,f,h1,h2⟩:=F3 O2;simp only[ff]at h1 h2;exact equal_txs IE O1 f ⟨by rw[h1.1];decide,h1.2.1,by rw[h1.2.2];exact Lw⟩ ⟨by rw[h2.1];decide,h2.2.1,by rw[h2.2.2];exact Lw⟩ w a b c d
section
variable[Dr][df:Df]{N:Nat}{m:Sl}{S:World->Prop}{ty:TypeId}
theorem xg{yT:TypeId}{y:Operand}{a b c d:List UInt8}(hx:ev m x=some (.agg #[tx a,tx b]))(hy:ev m y=some (.agg #[tx c,tx d])):Qt prog N m S (.binOp .neq 41 x y yT) ty (.bool (!(decide (a=c)&&decide (b=d)))):=λf w _ _ _ _ ha _=>by
 have h1:=equal_span w a b c d;simp only[execOp,ha.ev hx,ha.ev hy,eC];have h2:(eqGuard .neq 41 x y (.agg #[tx a,tx b]) (.agg #[tx c,tx d])).run prog w = .ok () w:=by
  simp[eqGuard,IF]
 rw[h2];simp[binOp,h1]
end
section
section
variable[Dr][df:Df]{N:Nat}{m:Sl}{S:World->Prop}{ty:TypeId}
theorem vJ{yT:TypeId}{y:Operand}{a b c d:List UInt8}(hx:ev m x=some (.agg #[tx a,tx b]))(hy:ev m y=some (.agg #[tx c,tx d]))(h1:a=c)(h2:b=d):Qt prog N m S (.binOp .neq 41 x y yT) ty (.bool false):=by
 have h:=xg (N:=N) (m:=m) (S:=S) (ty:=ty) (yT:=yT) hx hy;rw[h1,h2]at h;simpa using h
end
variable{w:World}{F:Gs}
end
theorem QAU(z:Int):qO (XR z)=aW z.natAbs:=by
 have h:=Nx ((z:Int):Rat);rw[dp,show((z:Int):Rat).num=z from by simp]at h;unfold qO;rw[h];unfold Na;by_cases h0:z<0
 ·rw[if_pos h0,if_pos wj,Zi h0];rfl
 rw[if_neg h0,Jd O,if_neg (by split<;>decide)]
section
variable{w:World}{F:Gs}
variable{a b:List UInt8}
theorem QCy(c:Fits F w)(ha:JW a=0)(hb:JW b=0):QX prog 13 [tx a,tx b] w F (tx (Q5 (Jr a+Jr b))):=by
 have h:=xU (x:=Jr a) (y:=Jr b) c (ay (Yx ha) wj) (ay (Yx hb) wj)
 rwa [<-(XW ha).1,<-(XW hb).1]at h
theorem QCu(c:Fits F w)(ha:JW a=0)(hb:JW b=0):QX prog 12 [tx a,tx b] w F (tx (Q5 (Jr a-Jr b))):=by
 have h:=xK (x:=Jr a) (y:=Jr b) c (ay (Yx ha) wj) (ay (Yx hb) wj)
 rwa [<-(XW ha).1,<-(XW hb).1]at h
end
theorem Tj(x y:Rat):Ky x y<=0↔x<=y:=by
 unfold Ky;by_cases h:x<y
 ·rw[if_pos h];exact⟨λ_=>Rat.le_of_lt h,λ_=>wj⟩
 rw[if_neg h];by_cases e:x=y
 ·rw[if_pos e,e];exact⟨λ_=>bj,λ_=>wj⟩
 rw[if_neg e];refine⟨λk=>absurd k wj,λk=>absurd (Rat.lt_of_le_of_ne k e) h⟩
theorem pW(x y:Rat):Ky x y>=0↔y<=x:=by
 unfold Ky;by_cases h:x<y
 ·rw[if_pos h];exact⟨λk=>absurd k wj,λk=>absurd k (Rat.not_le.2 h)⟩
 rw[if_neg h];refine⟨λ_=>Rat.not_lt.1 h,λ_=>?_⟩;split<;>decide
theorem OW(x y:Rat):Ky x y<0↔x<y:=by
 rw[<-Rat.not_le,<-pW];omega
theorem P2(x y:Rat):Ky x y>0↔y<x:=by
 rw[<-Rat.not_le,<-Tj];omega
def Dy(x:Rat)(a:Rat×Rat):Prop:=a.1<=x/\x<=a.2
theorem jj(s:Rat×Rat)(x:Rat):(Xx s x).1<=s.1/\s.2<=(Xx s x).2/\Dy x (Xx s x)\/¬s.1<=s.2:=by
 by_cases h:s.1<=s.2
 ·left;unfold Xx Dy;dsimp only;by_cases h1:x<s.1
  ·rw[if_pos ((OW x s.1).2 h1),if_neg (λk=>by have:=(P2 x s.2).1 k;grind)]
   grind
  rw[if_neg (λk=>h1 ((OW x s.1).1 k))];by_cases h2:s.2<x
  ·rw[if_pos ((P2 x s.2).2 h2)];grind
  rw[if_neg (λk=>h2 ((P2 x s.2).1 k))];grind
 exact .inr h
theorem E8:∀(l:List Rat) (s:Rat×Rat),s.1<=s.2->((l.foldl Xx s).1<=s.1/\s.2<=(l.foldl Xx s).2)/\∀y∈l,Dy y (l.foldl Xx s)
 |[],s,_=>⟨⟨bj,bj⟩,λy hy=>by cases hy⟩
 |x::l,s,h=>by
  rcases jj s x with ⟨h1,h2,h3⟩ | h1
  ·obtain⟨⟨g1,a⟩,b⟩:=E8 l (Xx s x) (by unfold Dy at h3;grind);unfold Dy at h3;refine⟨⟨aT g1 h1,aT h2 a⟩,λy hy=>?_⟩;rcases List.mem_cons.1 hy with rfl | hy
   ·exact⟨aT g1 h3.1,aT h3.2 a⟩
   exact b y hy
  exact absurd h h1
theorem Vh{r:Rat}{l:List Rat}{y:Rat}(h:y∈r::l):Dy y (WU r l):=by
 obtain⟨h1,h2⟩:=E8 l (r,r) bj;rcases List.mem_cons.1 h with rfl | h
 ·exact h1
 exact h2 y h
theorem LD(l:List Rat):∀(s:Rat×Rat),((l.foldl Xx s).1=s.1\/(l.foldl Xx s).1∈l)/\((l.foldl Xx s).2=s.2\/(l.foldl Xx s).2∈l):=by
 induction l with
 |nil=>intro s;exact⟨.inl rfl,.inl rfl⟩
 |cons x l ih =>
  intro s;obtain⟨h1,h2⟩:=ih (Xx s x);rw[bY];have b:(Xx s x).1=s.1\/(Xx s x).1=x:=by unfold Xx;dsimp only;split;exact .inr rfl;exact .inl rfl
  have a:(Xx s x).2=s.2\/(Xx s x).2=x:=by unfold Xx;dsimp only;split;exact .inr rfl;exact .inl rfl
  constructor
  ·rcases h1 with h1 | h1
   ·rw[h1];rcases b with w | w
    ·exact .inl w
    exact .inr (by rw[w];exact bD)
   exact .inr (ar _ h1)
  rcases h2 with h2 | h2
  ·rw[h2];rcases a with w | w
   ·exact .inl w
   exact .inr (by rw[w];exact bD)
  exact .inr (ar _ h2)
theorem FJ(r:Rat)(l:List Rat):(WU r l).1∈r::l/\(WU r l).2∈r::l:=by
 obtain⟨h1,h2⟩:=LD l (r,r);unfold WU;refine⟨?_,?_⟩
 ·rcases h1 with h | h
  ·rw[h];exact bD
  exact ar _ h
 rcases h2 with h | h
 ·rw[h];exact bD
 exact ar _ h
def KG(a b:Rat×Rat):Prop:=b.1<=a.1/\a.1<=a.2/\a.2<=b.2
theorem QAv{b:Rat×Rat}(h1:Dy a.1 b)(h2:Dy a.2 b)(h:a.1<=a.2):KG a b:=⟨h1.1,h,h2.2⟩
theorem Oy(a b:Rat×Rat):(XP a b).1<=(XP a b).2:=by
 have:=Vh (r:=a.1*b.1) (l:=[a.1*b.2,a.2*b.1,a.2*b.2]) bD;exact aT this.1 this.2
theorem Hc{x y:Rat}{b:Rat×Rat}(hx:Dy x a)(hy:Dy y b):Dy (x*y) (XP a b):=by
 have z:Dy (a.1*b.1) (XP a b):=Vh wu;have w:Dy (a.1*b.2) (XP a b):=Vh wu;have o:Dy (a.2*b.1) (XP a b):=Vh wu;have m:Dy (a.2*b.2) (XP a b):=Vh wu;generalize XP a b=t at *
 obtain⟨i,g⟩:=hx;obtain⟨f,d⟩:=hy;unfold Dy at *
 have k:Dy (a.1*y) t:=by
  rcases eU (a:=0) (b:=a.1)with h | h
  ·have:=aj f h;have:=aj d h;unfold Dy;grind
  have c:0<=-a.1:=by grind
  have:=aj f c;have:=aj d c;unfold Dy;grind
 have j:Dy (a.2*y) t:=by
  rcases eU (a:=0) (b:=a.2)with h | h
  ·have:=aj f h;have:=aj d h;unfold Dy;grind
  have c:0<=-a.2:=by grind
  have:=aj f c;have:=aj d c;unfold Dy;grind
 unfold Dy at k j;rcases eU (a:=0) (b:=y)with h | h
 ·have:=aB i h;have:=aB g h
  grind
 have c:0<=-y:=by grind
 have:=aB i c;have:=aB g c
 grind
theorem KG.ends{b:Rat×Rat}(k:KG a b):Dy a.1 b/\Dy a.2 b:=⟨⟨k.1,aT k.2.1 k.2.2⟩,⟨aT k.1 k.2.1,k.2.2⟩⟩
theorem Rb{b c d:Rat×Rat}(h:KG a c)(k:KG b d):KG (XP a b) (XP c d):=by
 obtain⟨g,f⟩:=h.ends;obtain⟨b1,b2⟩:=k.ends;have all:∀z∈[a.1*b.1,a.1*b.2,a.2*b.1,a.2*b.2],Dy z (XP c d):=λz hz=>by
  simp only[bA,bT,or_false]at hz;rcases hz with rfl | rfl | rfl | rfl
  ·exact Hc g b1
  ·exact Hc g b2
  ·exact Hc f b1
  exact Hc f b2
 obtain⟨h1,h2⟩:=FJ (a.1*b.1) [a.1*b.2,a.2*b.1,a.2*b.2];exact QAv (all _ h1) (all _ h2) (Oy a b)
theorem YD{x y:Rat}(h0:0<=x)(h:x<=y):∀n:Nat,x^n<=y^n
 |0=>by rw[fD,fD];exact bj
 |n+1=>by
  have ih:=YD h0 h n;have hx:0<=x^n:=Rat.pow_nonneg h0;rw[fF,fF];have h1:=aj h hx;have h2:=aB ih (aT h0 h);exact aT h1 h2
abbrev Xf:=Rat×Rat
def VY(a b:List Xf):List Xf:=(ai a.length).map λk=>RQ (el a k) (el b k)
def Vq(a b:List Xf)(k i:Nat):Xf:=(ai i).foldl (λs j=>RQ s (XP (el a j) (el b (k-j)))) (0,0)
def Yi(a b:List Xf):List Xf:=(ai a.length).map λk=>Vq a b k (k+1)
def WT(a:Rat)(n:Nat):List Xf:=(a,a)::bH n (0,0)
def ZA(t:Xf):Nat->List Xf
 |0=>[t]
 |n+1=>t::(1,1)::bH n (0,0)
def GS(y b:List Xf)(n:Nat):List Xf:=(ai n).foldl (λy _=>Yi y b) y
def Ki(c:Rat)(ks:List Int)(all:List (List Xf))(n i:Nat):List Xf:=(ai i).foldl (λy v=>GS y (el all v) (Qg ks v).toNat) (WT c n)
def Z6(p:List Tm)(all:List (List Xf))(n:Nat):List Xf:=p.foldl (λs t=>VY s (Ki t.1 t.2 all n all.length)) (WT 0 n)
def Jk(rs:List (List Tm))(t:Xf)(box:List Xf):Nat->List (List Xf)
 |0=>box.map λx=>[x]
 |k+1=>(ai box.length).map λi=>el (Jk rs t box k) i++[XP (el (Z6 (el rs i) (ZA t k::Jk rs t box k) k) k) ((((k+1:Nat):Int):Rat)⁻¹,(((k+1:Nat):Int):Rat)⁻¹)]
theorem Hh(a b:List Xf):(VY a b).length=a.length:=by simp[VY]
theorem BV(a b:List Xf):(Yi a b).length=a.length:=by simp[Yi]
theorem Kx(a:Rat)(n:Nat):(WT a n).length=n+1:=by simp[WT]
theorem Vg(t:Xf)(n:Nat):(ZA t n).length=n+1:=by cases n<;>simp[ZA]
theorem W6{β:Type}{f:β->α->β}{P:β->Prop}(c:∀b a,P b->P (f b a)):∀(l:List α) {b:β},P b->P (l.foldl f b)
 |[],_,h=>h
 |a::l,b,h=>W6 c l (c b a h)
theorem Kv(y b:List Xf)(n:Nat):(GS y b n).length=y.length :=
 W6 (P:=λz:List Xf=>z.length=y.length) (λz _ h=>(BV z b).trans h) (ai n) rfl
theorem X1(c:Rat)(ks:List Int)(all:List (List Xf))(n i:Nat):(Ki c ks all n i).length=n+1 :=
 W6 (P:=λz:List Xf=>z.length=n+1) (λz v h=>(Kv z _ _).trans h) (ai i) (Kx c n)
theorem ZD(p:List Tm)(all:List (List Xf))(n:Nat):(Z6 p all n).length=n+1 :=
 W6 (P:=λz:List Xf=>z.length=n+1) (λz t h=>(Hh z _).trans h) p (Kx 0 n)
theorem ZM(rs:List (List Tm))(t:Xf)(box:List Xf)(k:Nat):(Jk rs t box k).length=box.length:=by
 cases k<;>simp[Jk]
theorem Z8[Inhabited α]{n i:Nat}(f:Nat->α)(h:i<n):el ((ai n).map f) i=f i:=by
 rw[JB (by simpa using h)];simp
theorem Kf(rs:List (List Tm))(t:Xf)(box:List Xf):∀(k:Nat) {i:Nat},i<box.length->(el (Jk rs t box k) i).length=k+1
 |0,i,h=>by
  show(el (box.map λx=>[x]) i).length=1;rw[JB (by simpa using h)];simp
 |k+1,i,h=>by
  rw[Jk,Z8 _ h,aE,Kf rs t box k h];rfl
theorem Og{a b c d:Xf}(h:KG a c)(k:KG b d):KG (RQ a b) (RQ c d):=by
 obtain⟨h1,h2,h3⟩:=h;obtain⟨i,g,f⟩:=k;refine⟨?_,?_,?_⟩<;>(unfold RQ;grind)
theorem KG.self{a:Xf}(h:a.1<=a.2):KG a a:=⟨bj,h,bj⟩
theorem KG.pt(x:Rat):KG (x,x) (x,x):=KG.self bj
def ZZ(a b:List Xf):Prop:=a.length=b.length/\∀i,i<a.length->KG (el a i) (el b i)
theorem ZZ.of{f g:Nat->Xf}(h:∀i,i<n->KG (f i) (g i)):ZZ ((ai n).map f) ((ai n).map g) :=
 ⟨wu,λi hi=>by
  have a:i<n:=by simpa using hi
  rw[Z8 _ a,Z8 _ a];exact h i a⟩
theorem CJ{a b c d:List Xf}(h:ZZ a c)(k:ZZ b d)(f:a.length=b.length):ZZ (VY a b) (VY c d):=by
 unfold VY;rw[<-h.1];exact ZZ.of λi hi=>Og (h.2 i hi) (k.2 i (f ▸ hi))
theorem SO{a b c d:List Xf}(h:ZZ a c)(k:ZZ b d)(f:a.length<=b.length){m:Nat}(hm:m<a.length):∀i,i<=m+1->KG (Vq a b m i) (Vq c d m i)
 |0,_=>KG.pt 0
 |i+1,hi=>by
  unfold Vq;rw[aC,au,au];exact Og (SO h k f hm i O) (Rb (h.2 i O) (k.2 (m-i) O))
theorem F6{a b c d:List Xf}(h:ZZ a c)(k:ZZ b d)(f:a.length<=b.length):ZZ (Yi a b) (Yi c d):=by
 unfold Yi;rw[<-h.1];exact ZZ.of λi hi=>SO h k f hi (i+1) (bm _)
theorem Uv{a b c d:List Xf}(h:ZZ a c)(k:ZZ b d)(f:a.length<=b.length):∀n,ZZ (GS a b n) (GS c d n)
 |0=>h
 |n+1=>by
  unfold GS;rw[aC,au,au];exact F6 (Uv h k f n) k (by rw[show(List.foldl (λy (_:Nat)=>Yi y b) a (ai n)).length=a.length from Kv a b n];exact f)
theorem Az(a:Rat)(n:Nat):ZZ (WT a n) (WT a n):=⟨rfl,λi hi=>KG.self (by
 unfold WT;cases i with
 |zero=>exact bj
 |succ i =>
  have b:i<n:=by rw[Kx]at hi;omega
  show(el (bH n ((0,0):Xf)) i).1<=(el (bH n ((0,0):Xf)) i).2;rw[JB (by simpa using b)];simp)⟩
theorem ZZ.cons{x y:Xf}{a b:List Xf}(h:KG x y)(k:ZZ a b):ZZ (x::a) (y::b) :=
 ⟨by simp[k.1],λi hi=>by
  cases i with
  |zero=>exact h
  |succ i=>exact k.2 i (by simpa using hi)⟩
theorem ZZ.QJ1(n:Nat):ZZ (bH n ((0,0):Xf)) (bH n (0,0)) :=
 ⟨rfl,λi hi=>KG.self (by rw[JB hi];simp)⟩
theorem kB{t u:Xf}(h:KG t u):∀n,ZZ (ZA t n) (ZA u n)
 |0=>ZZ.cons h ⟨rfl,λi hi=>by cases hi⟩
 |n+1=>ZZ.cons h (ZZ.cons (KG.pt 1) (ZZ.QJ1 n))
def Fq(n:Nat)(a b:List (List Xf)):Prop:=a.length=b.length/\∀i,i<a.length->(el a i).length=n/\ZZ (el a i) (el b i)
theorem AE{a b:List (List Xf)}(h:Fq (n+1) a b)(c:Rat)(ks:List Int):∀i,i<=a.length->ZZ (Ki c ks a n i) (Ki c ks b n i)
 |0,_=>Az c n
 |i+1,hi=>by
  unfold Ki;rw[aC,au,au];exact Uv (AE h c ks i O) (h.2 i O).2 (Nat.le_of_eq ((X1 c ks a n i).trans (h.2 i O).1.symm)) _
theorem CC{a b:List (List Xf)}(h:Fq (n+1) a b)(p:List Tm):ZZ (Z6 p a n) (Z6 p b n):=by
 have key:∀(p:List Tm) (u v:List Xf),u.length=n+1->ZZ u v->ZZ (p.foldl (λs t=>VY s (Ki t.1 t.2 a n a.length)) u) (p.foldl (λs t=>VY s (Ki t.1 t.2 b n b.length)) v):=by
  intro p
  induction p with
  |nil=>intro u v _ k;exact k
  |cons t p ih =>
   intro u v hu k;refine ih _ _ ((Hh _ _).trans hu) (CJ k ?_ (hu.trans (X1 _ _ _ _ _).symm));rw[<-h.1];exact AE h t.1 t.2 a.length (bm _)
 exact key p _ _ (Kx 0 n) (Az 0 n)
theorem ZZ.snoc{x y:Xf}{a b:List Xf}(h:KG x y)(k:ZZ a b):ZZ (a++[x]) (b++[y]) :=
 ⟨by simp[k.1],λi hi=>by
  rw[aE,List.length_singleton]at hi;by_cases e:i<a.length
  ·have d:i<b.length:=k.1 ▸ e;have:=k.2 i e;rw[JB wv,JB wv,eO e,eO d,<-JB e,<-JB d];exact this
  have c:i=a.length:=O;have f:i=b.length:=by rw[<-k.1];exact c
  rw[JB wv,JB wv,eN O,eN O];simpa[c,k.1]using h⟩
theorem LU{rs:List (List Tm)}{t u:Xf}{x y:List Xf}(ht:KG t u)(hb:ZZ x y):∀k,Fq (k+1) (Jk rs t x k) (Jk rs u y k)
 |0=>⟨by simp[Jk,hb.1],λi hi=>by
  have h1:i<x.length:=by simpa[Jk]using hi
  have h2:i<y.length:=hb.1 ▸ h1;show(el (x.map λx=>[x]) i).length=1/\ZZ (el (x.map λx=>[x]) i) (el (y.map λx=>[x]) i);rw[JB (by simpa using h1),JB (by simpa using h2)];refine⟨wu,?_⟩;rw[aA,aA];refine ZZ.cons ?_ ⟨rfl,λi hi=>by cases hi⟩;have:=hb.2 i h1
  rwa [JB h1,JB h2]at this⟩
 |k+1=>by
  have ih:=LU (rs:=rs) ht hb k;refine⟨by rw[ZM,ZM];exact hb.1,λi hi=>?_⟩;rw[ZM]at hi;refine⟨Kf rs t x (k+1) hi,?_⟩;have h2:i<y.length:=hb.1 ▸ hi;rw[Jk,Jk,Z8 _ hi,Z8 _ h2];have a:Fq (k+1) (ZA t k::Jk rs t x k) (ZA u k::Jk rs u y k):=⟨by simp[ih.1],λi hi=>by
   cases i with
   |zero=>exact⟨Vg t k,kB ht k⟩
   |succ i=>exact ih.2 i (by simpa using hi)⟩
  have h3:=CC a (el rs i);exact ZZ.snoc (Rb (h3.2 k (by rw[ZD];omega)) (KG.pt _)) (ih.2 i (by rw[ZM];exact hi)).2
def Cl(Q d b:Nat)(x:Rat):Prop:=∃z:Int,x=Rat.divInt z ((Q^d:Nat):Int)/\z.natAbs<=2^b*Q^d
theorem Cl.add{x y:Rat}(h0:0<Q)(hx:Cl Q d b x)(hy:Cl Q d b y):Cl Q d (b+1) (x+y):=by
 obtain⟨z,rfl,h1⟩:=hx;obtain⟨u,rfl,h2⟩:=hy;have a:((Q^d:Nat):Int)≠0:=wg (eH (n:=d) h0);refine⟨z+u,?_,?_⟩
 ·rw[Rat.divInt_add_divInt _ _ a a,<-Int.add_mul,ee a]
 have:(z+u).natAbs<=z.natAbs+u.natAbs:=Int.natAbs_add_le z u;rw[Nat.pow_succ];have e:2^b*2*Q^d=2^b*Q^d+2^b*Q^d:=by rw[eQ,Nat.mul_comm 2,<-eQ,Nat.mul_two]
 omega
theorem Cl.mul{e:Nat}{x y:Rat}(h0:0<Q)(hx:Cl Q d b x)(hy:Cl Q e c y):Cl Q (d+e) (b+c) (x*y):=by
 obtain⟨z,rfl,h1⟩:=hx;obtain⟨u,rfl,h2⟩:=hy;refine⟨z*u,?_,?_⟩
 ·rw[Rat.divInt_mul_divInt,ek];congr 1
 rw[ep,ek,ek]
 calc z.natAbs*u.natAbs<=(2^b*Q^d)*(2^c*Q^e):=eM h1 h2
  _=2^b*2^c*(Q^d*Q^e):=by ac_rfl
theorem Cl.mono{e:Nat}{x:Rat}(h0:0<Q)(h:Cl Q d b x)(hd:d<=e)(hb:b<=c):Cl Q e c x:=by
 obtain⟨z,rfl,h1⟩:=h;obtain⟨k,rfl⟩:=Nat.le.dest hd;have a:((Q^d:Nat):Int)≠0:=wg (eH (n:=d) h0);have hk:((Q^k:Nat):Int)≠0:=wg (eH (n:=k) h0);refine⟨z*((Q^k:Nat):Int),?_,?_⟩
 ·rw[ek,fu,ee hk]
 rw[ep,ek,aV,<-eQ];exact eM (ay h1 (e8 _ (Nat.pow_le_pow_right wj hb))) (bm _)
theorem Cl.neg{x:Rat}(h:Cl Q d b x):Cl Q d b (-x):=by
 obtain⟨z,rfl,h1⟩:=h;exact⟨-z,by rw[Rat.neg_divInt],by rw[Int.natAbs_neg];exact h1⟩
theorem Cl.J6{Q:Nat}{x:Rat}(h0:0<Q)(h:Cl Q d b x):J6 x<=b+d*sz (Q:Int)+2:=by
 obtain⟨z,rfl,h1⟩:=h;have a:((Q^d:Nat):Int)≠0:=wg (eH (n:=d) h0);refine ay (VQ a) ?_;have e:((Q^d:Nat):Int)=(Q:Int)^d:=Int.natCast_pow Q d;have h2:sz ((Q^d:Nat):Int)<=d*sz (Q:Int)+1:=by rw[e];exact RA _ _
 have h3:sz z<=b+1+sz ((Q^d:Nat):Int):=by
  refine ay (VR (b:=((2^b:Nat):Int)*((Q^d:Nat):Int)) (by rw[ep,aV,aV];exact h1)) ?_;refine ay (Y6 _ _) (Nat.add_le_add_right ?_ _);rw[J3,aV];exact Nat.pow_lt_pow_right wj O
 omega
theorem Cl.of(x:Rat)(h0:0<Q)(h:x.den ∣ Q){b:Nat}(hb:sz x.num<=b):Cl Q 1 b x:=by
 obtain⟨k,rfl⟩:=h;have hk:0<k:=Nat.pos_of_mul_pos_left h0 |> λ_=>Nat.pos_of_ne_zero (by rintro rfl;simp at h0)
 have a:(k:Int)≠0:=O;refine⟨x.num*k,?_,?_⟩
 ·rw[fL,fu,ee a,Rat.num_divInt_den]
 rw[fL,ep,aV];have h1:=(J3 x.num b).1 hb;have h2:k<=x.den*k:=Nat.le_mul_of_pos_left k x.den_pos;exact eM O h2
def K1(l:List Xf):Bool:=l.any λs=>XV s.1||XV s.2
theorem H5:Zm prog 26=some (true,3):=wi
theorem G6:Yt prog 26 0=some (0,22):=wi
theorem WO:Yt prog 26 1=some (1,23):=wi
theorem Vv:Yt prog 26 2=some (2,24):=wi
theorem UF:GZ prog 37=some 24:=wi
theorem QEu:Zm prog 79=some (false,1):=wi
theorem Ep:GZ prog 79=some 94:=wi
theorem JY:Zm prog 89=some (true,8):=wi
theorem Y4:Ju prog 89=some [.int .i64 0,.slice none 0 0,.int .i64 0,.slice none 0 0,.int .i64 0,.slice none 0 0,.int .i64 0,.slice none 0 0]:=wi
theorem SS:ZC prog 89=some 128:=wi
theorem Ry:Yl prog 89=some [(0,4),(4,4)]:=wi
theorem G5:Yt prog 89 0=some (0,87):=wi
theorem G4:Yt prog 89 1=some (4,87):=wi
theorem XG:Zm prog 91=some (false,1):=wi
theorem Xy:GZ prog 91=some 89:=wi
theorem Xg:Zm prog 94=some (true,1):=wi
theorem BP:Ju prog 94=some [.slice none 0 0]:=wi
theorem QGp:ZC prog 94=some 24:=wi
theorem cF:Yl prog 94=some [(0,1)]:=wi
theorem ZO:Yt prog 94 0=some (0,91):=wi
theorem QEq:Ju prog 131=some [.slice none 0 0,.slice none 0 0]:=wi
theorem QBM:Yl prog 131=some [(0,1),(1,1)]:=wi
theorem Ta:Yt prog 131 0=some (0,64):=wi
theorem UC:Zm prog 66=some (true,5):=wi
theorem uT:Ju prog 66=some [.slice none 0 0,.slice none 0 0,.slice none 0 0,.int .i64 0,.slice none 0 0]:=wi
theorem QFU:Yl prog 66=some [(0,3),(3,1),(4,1)]:=wi
theorem QB5:Yt prog 66 0=some (0,26):=wi
theorem QGW:Yt prog 66 1=some (3,3):=wi
theorem C2:Yt prog 66 2=some (4,64):=wi
section
open Go Go.RowKit Ig
section
variable[Dr][df:Df]{P:Program}{Q:Exit->Act->World->Prop}{N:Nat}{m:Sl}{l:List Oper}{w0:World}{F0:Gs}{bs bs0:List (Nat×Obj)}{G G0:Gs->Prop}
def WX:List Nat->List (List Nat)
 |[]=>[[]]
 |i::A=>(WX A).map (i::·)++WX A
def EH(l:List Oper)(r u:List Nat):List Nat:=(ai l.length).filter λi=>r.contains i||u.contains i
def uC(l:List Oper)(i:Nat):Option (Nat×TypeId):=match l[i]? with
 |some ⟨some d,.alloc T,_,_,_,none⟩=>some (d,T)
 |_=>none
def dI(l:List Oper)(i:Nat):Nat:=((uC l i).getD (0,0)).1
def tI(l:List Oper)(i:Nat):TypeId:=((uC l i).getD (0,0)).2
def zI(P:Program)(l:List Oper)(i:Nat):Obj:=.cells ((Ju P (tI l i)).getD []).toArray (tI l i) (0,0)
def qK(P:Program)(N:Nat)(l:List Oper)(i:Nat):Bool:=(uC l i).isSome&&(Ju P (tI l i)).isSome&&Gz (tI l i)&&Jx N (some (dI l i))
def BZ(b:Nat):Value:=.pointer (some ⟨b,0,none⟩)
def okB(l:List Oper)(A r:List Nat)(k:Nat):Bool:=(WX A).all λu=>(BD l (EH l r u)).isNone&&((EH l r u).filter (Y8 l (EH l r u))).all (λi=>u.contains i||az i k)&&u.all (λi=>(EH l r u).contains i&&((EH l r u).erase i==EH l r (u.erase i))&&(WX A).contains (u.erase i))&&((EH l r u).erase k==EH l (r.erase k) u)&&!(EH l r u).isEmpty
def QGO(l:List Oper)(A r:List Nat)(i:Nat):Bool:=(WX A).all λu=>!(u.contains i)||((BD l (EH l r u)).isNone&&((EH l r u).filter (Y8 l (EH l r u))).all (λj=>u.contains j)&&u.all (λj=>(EH l r u).contains j&&((EH l r u).erase j==EH l r (u.erase j))&&(WX A).contains (u.erase j))&&!(EH l r u).isEmpty)
def mxI(l:List Oper)(A u:List Nat)(β:Nat->Nat):Sl:=(A.filter λi=>!(u.contains i)).map λi=>(dI l i,BZ (β i))
def pk(P:Program)(l:List Oper)(A u:List Nat)(β:Nat->Nat):List (Nat×Obj):=(A.filter λi=>!(u.contains i)).map λi=>(β i,zI P l i)
def KT(P:Program)(l:List Oper)(Q:Exit->Act->World->Prop)(b:World->Prop)(A r:List Nat)(N:Nat)(m:Sl)(w0:World)(F0:Gs)(bs:List (Nat×Obj))(G:Gs->Prop):Prop :=
 ∀(u:List Nat) (β:Nat->Nat) (a:Act) (w:World),u∈WX A->JH N m a->(∀i∈A,i∉u->JH N [(dI l i,BZ (β i))] a)->St ⟨w0,F0,pk P l A u β++bs,G⟩ w->Bi P l Q b (EH l r u).length (EH l r u) a w
theorem JH.Rt{a:Act}(h:JH N m a){d:Nat}(hd:Jx N (some d)=true)(v:Value)(hm:look m d=none):JH N m (a.put (some d) v):=by
 have h1:=h.put hd v;refine⟨h1.size,h1.df,λt x ht=>h1.get t x ?_⟩;show(bif az d t then some v else look m t)=some x;have:az d t=false:=by
  cases e:az d t with
  |false=>rfl
  |true=>have:=aF e;subst this;rw[hm]at ht;cases ht
 rw[this];exact ht
theorem Wi{t:Nat}{v:Value}:look [(d,v)] t=(bif az d t then some v else none):=rfl
theorem DD:∀ {A u:List Nat},u∈WX A->∀i∈u,i∈A
 |[],u,h,i,hi=>by simp only[WX,er]at h;subst h;cases hi
 |a::A,u,h,i,hi=>by
  simp only[WX,bK,ew]at h;rcases h with ⟨v,hv,rfl⟩ | h
  ·rcases List.mem_cons.1 hi with rfl | hi
   ·simp
   exact ar _ (DD hv i hi)
  exact ar _ (DD h i hi)
theorem VS:∀ {A u:List Nat},A.Nodup->u∈WX A->u.Nodup
 |[],u,_,h=>by simp only[WX,er]at h;subst h;exact List.nodup_nil
 |a::A,u,b,h=>by
  rw[fk]at b;simp only[WX,bK,ew]at h;rcases h with ⟨v,hv,rfl⟩ | h
  ·rw[fk];exact⟨λhm=>b.1 (DD hv a hm),VS b.2 hv⟩
  exact VS b.2 h
theorem Rh:∀A:List Nat,A∈WX A
 |[]=>by simp[WX]
 |a::A=>by simp only[WX,bK,ew];exact .inl ⟨A,Rh A,rfl⟩
theorem Dd{i:Nat}(b:A.Nodup)(hu:u.Nodup)(a:i∈A)(hi:i∈u):(A.filter λj=>!((u.erase i).contains j)).Perm (i::A.filter λj=>!(u.contains j)):=by
 refine(List.perm_ext_iff_of_nodup (b.filter _) (List.nodup_cons.2 ⟨λh=>?_,b.filter _⟩)).2 λj=>?_
 ·have:=(List.mem_filter.1 h).2;simp[hi]at this
 rw[bA,fm,fm];simp only[bS,bh,decide_eq_false_iff_not];rw[hu.mem_erase_iff];by_cases e:j=i
 ·subst e;simp[a]
 simp[e]
theorem FM{a:Act}(hA:A.Nodup)(hinj:∀j∈A,∀k∈A,dI l j=dI l k->j=k)(hB:∀j∈A,qK P N l j=true/\look m (dI l j)=none)
  (h0:bs0.Sublist bs) (hg0:∀F,G F->G0 F) (hu:u∈WX A) (hi:i∈u) (ha:JH N m a) (hx:∀i∈A,i∉u->JH N [(dI l i,BZ (β i))] a) (hw:St ⟨w0,F0,pk P l A u β++bs,G⟩ w) {R:Act->World->Prop}
  (k:∀β' a' w',JH N m a'->(∀j∈A,j∉u.erase i->JH N [(dI l j,BZ (β' j))] a')->St ⟨w0,F0,pk P l A (u.erase i) β'++bs,G⟩ w'->R a' w') :
  wpOp P l.toArray (λ_ _ _=>False) i (λa' w'=>St ⟨w0,F0,bs0,G0⟩ w'/\R a' w') a w:=by
 have hiA:=DD hu i hi;have hun:=VS hA hu;obtain⟨hb,hm⟩:=hB i hiA;simp only[qK,aS]at hb;obtain⟨⟨⟨h1,h2⟩,h3⟩,h4⟩:=hb;obtain⟨⟨d,T⟩,e⟩:=Option.isSome_iff_exists.1 h1;have ed:dI l i=d:=by unfold dI;rw[e];rfl
 have et:tI l i=T:=by unfold tI;rw[e];rfl
 obtain⟨z,ez⟩:=Option.isSome_iff_exists.1 h2;rw[et]at ez h3;rw[ed]at h4 hm;unfold uC at e;split at e
 ·rename_i d' T' ty pos aft he;simp only[Option.some.injEq,ff]at e;obtain⟨rfl,rfl⟩:=e;have ho':l.toArray[i]?=some ⟨some d',.alloc T',ty,pos,aft,none⟩:=by simpa using he
  have hS:=hw.alloc (.cells z.toArray T' (0,0)) (ZB h3);unfold wpOp;simp only[ho'];rw[if_pos (by simp[eL])];refine .inl (upon_value (Et ez) ⟨hS.imp ((h0.trans (bQ _ _)).trans (List.sublist_cons_self _ _)) hg0,?_⟩);refine k (λj=>if j=i then w.heap.size else β j) _ _ (ha.Rt h4 _ hm) (λj hj hju=>?_) ?_
  ·by_cases ej:j=i
   ·subst ej;rw[if_pos rfl,ed];have:=(ha.put h4 (BZ w.heap.size));refine⟨this.size,this.df,λt x ht=>this.get t x ?_⟩;rw[Wi]at ht;show(bif az d' t then some _ else look m t)=some x;cases e2:az d' t with
    |true=>rw[e2]at ht;exact ht
    |false=>rw[e2]at ht;cases ht
   rw[if_neg ej];refine(hx j hj λh=>hju ((hun.mem_erase_iff).2 ⟨ej,h⟩)).Rt h4 _ ?_;rw[Wi];have:az (dI l j) d'=false:=by
    cases e2:az (dI l j) d' with
    |false=>rfl
    |true=>exact absurd (hinj j hj i hiA ((aF e2).trans ed.symm)) ej
   rw[this];rfl
  refine hS.perm ?_;have hp:=(Dd hA hun hiA hi).map λj=>((if j=i then w.heap.size else β j),zI P l j);have e3:(eB (λj=>((if j=i then w.heap.size else β j),zI P l j)) (i::A.filter λj=>!(u.contains j)))=(w.heap.size,eF z.toArray T' (0,0))::pk P l A u β:=by
   rw[aw,if_pos rfl];have eA:zI P l i=eF z.toArray T' (0,0):=by unfold zI;rw[et,ez];rfl
   rw[eA];refine congrArg (_::·) ?_;unfold pk;refine e9 λj hj=>?_;have:j≠i:=λe=>by subst e;have:=(List.mem_filter.1 hj).2;simp[hi]at this
   rw[if_neg this]
  rw[e3]at hp;exact(hp.symm.append_right bs)
 cases e
theorem G2:∀(x y:Sl) (t:Nat),look (x++y) t=(look x t).or (look y t)
 |[],_,_=>rfl
 |(s,v)::x,y,t=>by
  show(bif az s t then some v else look (x++y) t)=(bif az s t then some v else look x t).or (look y t);cases az s t with
  |true=>rfl
  |false=>exact G2 x y t
theorem QBY{a:Act}(ha:JH N m a)(hx:∀i∈A,i∉u->JH N [(dI l i,BZ (β i))] a):JH N (m++mxI l A u β) a:=by
 refine⟨ha.size,ha.df,λt v ht=>?_⟩;rw[G2]at ht;cases e:look m t with
 |some g=>rw[e]at ht;exact ha.get t v (by rw[e];exact ht)
 |none =>
  rw[e,eG]at ht;unfold mxI at ht;have:∀B:List Nat,(∀i∈B,i∈A/\i∉u)->look (B.map λi=>(dI l i,BZ (β i))) t=some v->a.tmps[t]?=some v:=by
   intro B
   induction B with
   |nil=>intro _ h;cases h
   |cons j B d =>
    intro b h;rw[aw]at h;have c:(bif az (dI l j) t then some (BZ (β j))else look (B.map λi=>(dI l i,BZ (β i))) t)=some v:=h;cases f:az (dI l j) t with
    |true =>
     rw[f]at c;exact(hx j (b j wu).1 (b j wu).2).get t v (by rw[Wi,f];exact c)
    |false=>rw[f]at c;exact d (λi hi=>b i (by simp[hi])) c
  exact this _ (λi hi=>⟨(List.mem_filter.1 hi).1,by have:=(List.mem_filter.1 hi).2;simpa using this⟩) ht
theorem gj{a:Act}{nw:Sl}(c:∀j∈A,∀k∈A,dI l j=dI l k->j=k)(y:∀j∈A,look m (dI l j)=none)(b:∀j∈A,look nw (dI l j)=none)(g1:JH N (nw++(m++mxI l A u β)) a):JH N (nw++m) a/\∀i∈A,i∉u->JH N [(dI l i,BZ (β i))] a:=by
 refine⟨⟨g1.size,g1.df,λt v ht=>g1.get t v ?_⟩,λj f o=>⟨g1.size,g1.df,λt v ht=>g1.get t v ?_⟩⟩
 ·rw[<-ao,G2,ht];rfl
 rw[Wi]at ht;cases w:az (dI l j) t with
 |false=>rw[w]at ht;cases ht
 |true =>
  rw[w]at ht;have e3:=aF w;subst e3;rw[G2,b j f,eG,G2,y j f,eG];unfold mxI;have:∀B:List Nat,j∈B->(∀i∈B,i∈A)->look (B.map λi=>(dI l i,BZ (β i))) (dI l j)=some (BZ (β j)):=by
   intro B
   induction B with
   |nil=>intro h;cases h
   |cons i B g =>
    intro h d;show(bif az (dI l i) (dI l j)then some (BZ (β i))else look (B.map λi=>(dI l i,BZ (β i))) (dI l j))=_;cases x:az (dI l i) (dI l j)with
    |true=>rw[c i (d i wu) j f (aF x)];rfl
    |false =>
     rcases List.mem_cons.1 h with rfl | h
     ·simp at x
     exact g h λi hi=>d i (by simp[hi])
  rw[this _ (List.mem_filter.2 ⟨f,by simpa using o⟩) (λi hi=>(List.mem_filter.1 hi).1)];exact ht
theorem Om{r:List Nat}(k:Nat){o:Oper}{γ:Type}{new:γ->Sl}{bs1:γ->List (Nat×Obj)}{G1:γ->Gs->Prop}(L:okB l A r k=true)(hA:A.Nodup)(f:∀j∈A,∀k∈A,dI l j=dI l k->j=k)(hB:∀j∈A,qK P N l j=true/\look m (dI l j)=none)
  (h0:bs0.Sublist bs) (E:∀F,G F->G0 F) (ho:l[k]?=some o) (hq:Jn o.op=false) (hkA:k∉A) (y:∀c,∀j∈A,look (new c) (dI l j)=none)
  (g:∀(mX:Sl) (X:List (Nat×Obj)) (K:Act->World->Prop),(∀c a w,JH N (new c++(m++mX)) a->St ⟨w0,F0,X++bs1 c,G1 c⟩ w->K a w)->JD P l.toArray (Xp K) ⟨w0,F0,bs0,G0⟩ [o] N (m++mX) ⟨w0,F0,X++bs,G⟩)
  (hk:∀c,KT P l Q (St ⟨w0,F0,bs0,G0⟩) A (r.erase k) N (new c++m) w0 F0 (bs1 c) (G1 c)):KT P l Q (St ⟨w0,F0,bs0,G0⟩) A r N m w0 F0 bs G:=by
 intro u;generalize hn:u.length=n
 induction n using fq generalizing u with
 |ind n ih =>
  intro β a w hu ha hx hw;have d:=List.all_eq_true.1 L u hu;simp only[aS,bS]at d;obtain⟨⟨⟨⟨c1,c2⟩,c3⟩,c4⟩,c5⟩:=d;have hun:=VS hA hu;obtain⟨x,s,es⟩:=eK (show EH l r u≠[]from λe=>by rw[e]at c5;cases c5);rw[show(EH l r u).length=s.length+1 by rw[es];rfl];unfold Bi;rw[Option.isNone_iff_eq_none.1 c1];intro i hi H;have h2:=List.all_eq_true.1 c2 i (List.mem_filter.2 ⟨hi,H⟩);simp only[bL,bh,decide_eq_true_eq]at h2;have z:s.length=((EH l r u).erase i).length:=by rw[bB hi,es];rfl
  rw[z];by_cases b:i∈u
  ·have h3:=List.all_eq_true.1 c3 i b;simp only[aS,bh,decide_eq_true_eq,beq_iff_eq]at h3;rw[h3.1.2];refine FM hA f hB h0 E hu b ha hx hw λβ' a' w' g1 Y U=>?_;exact ih _ (by rw[<-hn,bB b];have:=eT b;omega) (u.erase i) rfl β' a' w' h3.2 g1 Y U
  have eik:i=k:=aF (h2.resolve_left b);subst eik;rw[beq_iff_eq]at c4;rw[c4];refine Nk (r':=EH l (r.erase i) u) (Q:=Q) (E0:=⟨w0,F0,bs0,G0⟩) ho hq (g (mxI l A u β) (pk P l A u β) _ λc a' w' g1 Y=>?_) (λw h=>h.imp (h0.trans (bQ _ _)) E) (QBY ha hx) hw;obtain⟨U,g4⟩:=gj f (λj hj=>(hB j hj).2) (y c) g1;exact hk c u β a' w' hu U g4 Y
theorem kT{r:List Nat}(i:Nat)(hf:QGO l (i::A) r i=true)(U:(i::A).Nodup)(o:∀j∈i::A,∀k∈i::A,dI l j=dI l k->j=k)(hB:∀j∈i::A,qK P N l j=true/\look m (dI l j)=none)
  (h0:bs0.Sublist bs) (L:∀F,G F->G0 F) {d:Nat} {z:Obj} (hd:dI l i=d) (hz:zI P l i=z) (hk:∀b,KT P l Q (St ⟨w0,F0,bs0,G0⟩) A r N ((d,.pointer (some ⟨b,0,none⟩))::m) w0 F0 ((b,z)::bs) G):KT P l Q (St ⟨w0,F0,bs0,G0⟩) (i::A) r N m w0 F0 bs G:=by
 subst hd hz;have hiA:=(List.nodup_cons.1 U).1;intro u;generalize hn:u.length=n
 induction n using fq generalizing u with
 |ind n ih =>
  intro β a w hu ha hx X;have hun:=VS U hu;by_cases f:i∈u
  ·have g:=List.all_eq_true.1 hf u hu;simp only[bL,bS,bh,decide_eq_false_iff_not,f,not_true_eq_false,false_or,aS]at g;obtain⟨⟨⟨c1,c2⟩,c3⟩,Y⟩:=g;obtain⟨x,s,es⟩:=eK (show EH l r u≠[]from λe=>by rw[e]at Y;cases Y);rw[show(EH l r u).length=s.length+1 by rw[es];rfl];unfold Bi;rw[Option.isNone_iff_eq_none.1 c1];intro j y K;have c:=List.all_eq_true.1 c2 j (List.mem_filter.2 ⟨y,K⟩);simp only[decide_eq_true_eq]at c;have h3:=List.all_eq_true.1 c3 j c;simp only[aS,bh,decide_eq_true_eq,beq_iff_eq]at h3;have h:s.length=((EH l r u).erase j).length:=by rw[bB y,es];rfl
   rw[h,h3.1.2];refine FM U o hB h0 L hu c ha hx X λβ' a' w' g1 g2 g3=>?_;exact ih _ (by rw[<-hn,bB c];have:=eT c;omega) (u.erase j) rfl β' a' w' h3.2 g1 g2 g3
  have H:u∈WX A:=by
   simp only[WX,bK,ew]at hu;rcases hu with ⟨v,_,rfl⟩ | hu
   ·exact absurd wu f
   exact hu
  have hs:=hx i wu f;refine hk (β i) u β a w H ⟨ha.size,ha.df,λt v ht=>?_⟩ (λj y c=>hx j (by simp[y]) c) ?_
  ·have E:(bif az (dI l i) t then some (BZ (β i))else look m t)=some v:=ht;cases e:az (dI l i) t with
   |true=>rw[e]at E;exact hs.get t v (by rw[Wi,e];exact E)
   |false=>rw[e]at E;exact ha.get t v E
  refine X.perm ?_;unfold pk;rw[List.filter_cons,if_pos (by simpa using f),aw,bV];exact List.perm_middle.symm
theorem kS{r R:List Nat}(hm:EH l r A=R)(h:KT P l Q (St ⟨w0,F0,bs0,G0⟩) A r N m w0 F0 bs G):JT P l Q ⟨w0,F0,bs0,G0⟩ R N m ⟨w0,F0,bs,G⟩:=by
 subst hm;intro _ a w ha b;refine h A (λ_=>0) a w (Rh A) ha (λi hi c=>absurd hi c) ?_;have:pk P l A A (λ_=>0)=[]:=by
  unfold pk;rw[List.filter_eq_nil_iff.2 (λi hi=>by simpa using hi)];rfl
 rw[this];exact b
theorem uJ(h:Fin Q .normal N m ⟨w0,F0,bs,G⟩)(hm:EH l [] []=[]){c:World->Prop}:KT P l (Xp (Q .normal)) c [] [] N m w0 F0 bs G:=by
 intro u β a w hu ha hx b;simp only[WX,er]at hu;subst hu;rw[hm];exact h a w ha b
def Dk(P:Program)(N:Nat)(l:List Oper)(A:List Nat):Bool:=A.all (λj=>qK P N l j)&&A.all (λj=>A.all λk=>!(az (dI l j) (dI l k))||az j k)&&decide A.Nodup
def dZ(l:List Oper)(m:Sl)(A:List Nat):Bool:=A.all λj=>!((m.map (·.1)).contains (dI l j))
theorem SA:∀ {m:Sl} {t:Nat},(m.map (·.1)).contains t=false->look m t=none
 |[],_,_=>rfl
 |(k,v)::m,t,h=>by
  rw[aw,List.contains_cons,eZ]at h;show(bif az k t then some v else look m t)=none;have:az k t=false:=by
   cases e:az k t with
   |false=>rfl
   |true=>have:=aF e;subst this;simp at h
  rw[this];exact SA h.2
theorem GA(h:Dk P N l A=true)(hk:dZ l m A=true):A.Nodup/\(∀j∈A,∀k∈A,dI l j=dI l k->j=k)/\∀j∈A,qK P N l j=true/\look m (dI l j)=none:=by
 simp only[Dk,aS,decide_eq_true_eq]at h;obtain⟨⟨h1,h2⟩,h3⟩:=h;refine⟨h3,λj a k hk e=>?_,λj a=>⟨List.all_eq_true.1 h1 j a,SA ?_⟩⟩
 ·have h4:=List.all_eq_true.1 (List.all_eq_true.1 h2 j a) k hk;rw[e]at h4;simpa using h4
 have h4:=List.all_eq_true.1 hk j a;simpa using h4
section
variable{A r:List Nat}{ty:TypeId}{pos:String}{aft:Array Edge}
theorem NX(k:Nat){d:Nat}{f:FuncId}{args:Array Operand}{h:Array TypeId}{vs:List Value}{γ:Type}{val:γ->Value}{a:γ->Gs->Prop}(i:okB l A r k=true)(g:Dk P N l A=true)(b:dZ l m A=true)(h0:bs0.Sublist bs)(x:∀F,G F->G0 F)
  (z:l[k]?=some ⟨some d,.call ⟨.value (.func f),args,h⟩,ty,pos,aft,none⟩) (o:A.contains k=false) (y:A.all (λj=>!(az d (dI l j)))=true) (hv:∀mX,Hk (m++mX) args.toList=some vs) (hc:∀w F,Fits F w->G F->QU P f vs w F val a)
  (hk:∀c,KT P l Q (St ⟨w0,F0,bs0,G0⟩) A (r.erase k) N ((d,val c)::m) w0 F0 bs λF=>G F/\a c F) (hd:Jx N (some d)=true:=by rfl):KT P l Q (St ⟨w0,F0,bs0,G0⟩) A r N m w0 F0 bs G:=by
 obtain⟨g1,U,L⟩:=GA g b;refine Om (γ:=γ) (new:=λc=>[(d,val c)]) (bs1:=λ_=>bs) (G1:=λc F=>G F/\a c F) k i g1 U L h0 x z rfl (by simpa using o) (λc j E=>?_) (λmX X K H=>QZ (hv mX) hc (λc=>kX (H c)) hd) hk;have:=List.all_eq_true.1 y j E;rw[Wi];simp only[bS]at this;rw[this];rfl
theorem GD.skip{l r:List (Nat×Obj)}{o:Obj}{f:Obj->List (Nat×Obj)}(h:GD l b o f r):∀p:List (Nat×Obj),GD (p++l) b o (λo'=>p++f o') (p++r)
 |[]=>h
 |_::p=>.there (h.skip p)
theorem Dt(k:Nat){T T':TypeId}{x y:Operand}{v:Value}{b off n:Nat}{c vs i:List Value}{g:Bool}{f:Obj->List (Nat×Obj)}{bs':List (Nat×Obj)}(o:okB l A r k=true)(h:Dk P N l A=true)(a:dZ l m A=true)(h0:bs0.Sublist bs)(d:∀F,G F->G0 F)
  (H:l[k]?=some ⟨none,.store T x y,ty,pos,aft,none⟩) (w:A.contains k=false) (hx:∀mX,ev (m++mX) x=some (.pointer (some ⟨b,off,none⟩))) (hy:∀mX,ev (m++mX) y=some v) (hv:v.cells=vs.toArray) (ht:Zm P T=some (g,n)) (L:vs.length=n)
  (z:GD bs b (.cells c.toArray T' (0,0)) f bs') (E:bs0.Sublist bs') (hp:Yz c off vs i) (h1:PD vs) (hk:KT P l Q (St ⟨w0,F0,bs0,G0⟩) A (r.erase k) N m w0 F0 (f (.cells i.toArray T' (0,0))) G) (hu:Gz T'=true:=by rfl):KT P l Q (St ⟨w0,F0,bs0,G0⟩) A r N m w0 F0 bs G:=by
 obtain⟨g1,g2,Y⟩:=GA h a;exact Om (γ:=Unit) (new:=λ_=>[]) (bs1:=λ_=>f (.cells i.toArray T' (0,0))) (G1:=λ_=>G) k o g1 g2 Y h0 d H rfl (by simpa using w) (λ_ j hj=>rfl)
  (λmX X K U=>Jg (hx mX) (hy mX) hv ht L (z.skip X) (E.trans (bQ _ _)) d hp h1 (kX (U ())) hu) λ_=>hk
theorem Ty(i:Nat)(g:QGO l (i::A) r i=true)(c:Dk P N l (i::A)=true)(a:dZ l m (i::A)=true)(h0:bs0.Sublist bs)(f:∀F,G F->G0 F){d:Nat}{z:List Value}{T:TypeId}(hd:dI l i=d)(ht:tI l i=T)(hz:Ju P T=some z)
  (hk:∀b,KT P l Q (St ⟨w0,F0,bs0,G0⟩) A r N ((d,.pointer (some ⟨b,0,none⟩))::m) w0 F0 ((b,.cells z.toArray T (0,0))::bs) G):KT P l Q (St ⟨w0,F0,bs0,G0⟩) (i::A) r N m w0 F0 bs G:=by
 obtain⟨g1,j,h⟩:=GA c a;exact kT i g g1 j h h0 f hd (by unfold zI;rw[ht,hz];rfl) hk
end
end
end
theorem MT{P:α->Prop}{a b c:α}(h:P a)(k:P b)(l:P c):∀p∈[a,b,c],P p:=λp hp=>by
 simp only[bA,bT,or_false]at hp;rcases hp with rfl | rfl | rfl
 ·exact h
 ·exact k
 exact l
theorem DS{x:Fr}{r:Rat}(a:Fits F w)(h:Ja F x r):VO prog 78 [x.v] w F (r,r):=by
 refine QU.go (G:=λF=>Ja F x r) func78 a h ?_;refine QNz<|Qv I (vs:=[_,_,_,_]) I λb1=>Qe Y4 λb2=>QMt<|QNz<|QA (wJ I Qm .u1)<|QA (wJ I Qm .u1)<|QA (XM I Ry Y4 (.cons (vs:=[_,_,_,_]) I I I .h4 (.cons (vs:=[_,_,_,_]) I I I (.skip (.skip (.skip (.skip .h4)))) .nil)))<|QV (vs:=[_,_,_,_,_,_,_,_]) I I I JY I .here .h8 wZ<|QMt<|QW ?_
 exact QO (⟨x,x⟩) I (.Jo (c:=[_,_,_,_,_,_,_,_]) I JY .here .nil) (rfl) λF h=>⟨h,h⟩
theorem OS{lo hi:List UInt8}(b:Fits F w)(a:JU F)(h1:JW lo=0)(h2:JW hi=0)(i:lo.length<=1000000/\hi.length<=1000000):VO prog 42 [.agg #[tx lo,tx hi]] w F (Jr lo,Jr hi):=by
 refine QU.go (G:=λF=>JU F) func42 b a ?_;refine QNz<|Qv I (vs:=[_,_]) I λb1=>Qe Y4 λb2=>QMt<|QG<|JO (.cons _ w9) mixed wi<|QK (QH I Vu JQ)<|QK (Qa I JQ .here .h1)<|QZ I (λ_ _ f k=>MS (s:=lo) (r:=Jr lo) f k (XW h1).1 O) λg=>QK (QH I WM JQ)<|QK (Qa I JQ .here (.skip .h1))<|QZ I (λ_ _ f k=>MS (s:=hi) (r:=Jr hi) f k.1 (XW h2).1 O) λd=>QK (XM I Ry Y4 (.cons (vs:=[_,_,_,_]) I I I .h4 (.cons (vs:=[_,_,_,_]) I I I (.skip (.skip (.skip (.skip .h4)))) .nil)))<|Jg (vs:=[_,_,_,_,_,_,_,_]) I I I JY I .here w9 (λ_ h=>h.1.1) .h8 wZ<|Qw<|QD<|QW ?_
 exact QO (⟨g,d⟩) I (.Jo (c:=[_,_,_,_,_,_,_,_]) I JY .here .nil) (rfl) λF h9=>⟨h9.1.2,h9.2⟩
theorem pO{x:Sp}(g:Fits F w)(d:JU F)(h:X9 F x a)(b:GP a 100000000):QX prog 102 [x.v] w F (.agg #[tx (Q5 a.1),tx (Q5 a.2)]):=by
 refine QU.go (G:=λF=>JU F/\X9 F x a) func102 g ⟨d,h⟩ ?_;refine QNz<|Qv I (vs:=[_,_,_,_,_,_,_,_]) I λb1=>Qe Mh λb2=>QMt<|QG<|JO (.cons _ w9) mixed wi<|QK (QH I G5 Qm)<|QK (wJ I Qm .here)<|QZ I (λ_ _ f k=>TW (x:=x.lo) (r:=a.1) f k.1 k.2.1 b.1) λ_=>QK (QH I G4 Qm)<|QK (wL I Qm .here)<|QZ I (λ_ _ f k=>TW (x:=x.hi) (r:=a.2) f k.1.1 k.1.2.2 b.2) λ_=>QK (XM I xz Mh (wP I I I))<|Jg (vs:=[_,_]) I I I Xb I .here w9 (λ_ h=>h.1.1) .h2 wT<|Qw<|QD<|QW ?_
 exact QO (()) I (.Jo (c:=[_,_]) I Xb .here .nil) (rfl) wy
theorem yi{x:Sp}(g:Fits F w)(d:JU F)(h:X9 F x a)(c:GP a 100000000):QX prog 101 [x.v] w F (.bool (XV a.1||XV a.2)):=by
 refine QU.go (G:=λF=>JU F/\X9 F x a) func101 g ⟨d,h⟩ ?_;refine QNz<|Qv I (vs:=[_,_,_,_,_,_,_,_]) I λb1=>QOm 5 I<|QA (QH I G5 Qm)<|QA (wJ I Qm .here)<|QL I (λ_ _ f k=>SH (x:=x.lo) (r:=a.1) f k.1 k.2.1 c.1) λ_=>QMu I ?_
 refine QY (t:=6) rfl (λb=>?_) λb=>?_
 ·refine QOm 8 I ?_;exact QO2 I I (congrArg ae (by rw[b,Bool.true_or])) wy
 refine QJ I I<|QA (QH I G4 Qm)<|QJ I I<|QA (wL I Qm .here)<|QJ I I<|QL I (λ_ _ f k=>SH (x:=x.hi) (r:=a.2) f k.1.1 k.1.2.2 c.2) λ_=>QOm 5 I ?_
 exact QO2 I I (congrArg ae (by rw[b,fB])) wy
theorem yj{x y:Sp}{b:Rat×Rat}(m:Fits F w)(h:X9 F x a)(o:X9 F y b)(g:GP a 100000000)(d:GP b 100000000):VO prog 155 [x.v,y.v] w F (RQ a b):=by
 refine QU.go (G:=λF=>X9 F x a/\X9 F y b) func155 m ⟨h,o⟩ ?_;refine QNz<|Qv I (vs:=[_,_,_,_,_,_,_,_]) I λb2=>Qv I (vs:=[_,_,_,_,_,_,_,_]) I λb3=>Qe Y4 λb4=>QMt<|QG<|JO (.cons _ w9) mixed wi<|QK (QH I G5 Qm)<|QK (wJ I Qm .u1)<|QK (QH I G5 Qm)<|QK (wJ I Qm .here)<|QZ I (λ_ _ f k=>RJ (x:=x.lo) (y:=y.lo) f k.1.1 k.2.1 g.1 d.1) λz=>QK (QH I G4 Qm)<|QK (wL I Qm .u1)<|QK (QH I G4 Qm)<|QK (wL I Qm .here)<|QZ I (λ_ _ f k=>RJ (x:=x.hi) (y:=y.hi) f k.1.1.2 k.1.2.2 g.2 d.2) λj=>QK (XM I Ry Y4 (.cons (vs:=[_,_,_,_]) I I I .h4 (.cons (vs:=[_,_,_,_]) I I I (.skip (.skip (.skip (.skip .h4)))) .nil)))<|Jg (vs:=[_,_,_,_,_,_,_,_]) I I I JY I .here w9 (λ_ h=>h.1.1) .h8 wZ<|Qw<|QD<|QW ?_
 exact QO (⟨z,j⟩) I (.Jo (c:=[_,_,_,_,_,_,_,_]) I JY .here .nil) (rfl) λF ⟨⟨⟨H,E⟩,h9⟩,i⟩=>⟨h9,i⟩
theorem yf{x y:Sp}{b:Rat×Rat}(U:Fits F w)(h:X9 F x a)(X:X9 F y b)(H:GP a 20000000)(E:GP b 20000000):VO prog 153 [x.v,y.v] w F (XP a b):=by
 have g1:=BN a.1 b.1;have g2:=BN a.1 b.2;have g3:=BN a.2 b.1;have g4:=BN a.2 b.2;have q1:=H.1;have q2:=H.2;have q3:=E.1;have Y:=E.2;refine QU.go (G:=λF=>X9 F x a/\X9 F y b) func153 U ⟨h,X⟩ ?_;refine QNz<|Qv I (vs:=[_,_,_,_,_,_,_,_]) I λb2=>Qv I (vs:=[_,_,_,_,_,_,_,_]) I λb3=>Qe Y4 λb4=>QMt<|QG<|kU (r:=[0,1,2,3,4,5,6,7,8,9,10,11,12,13,14,15,16,17,18,19,20,21,22,23,24,25,26,27]) w9 mixed wi rfl<|KE 0 wi rfl rfl<|QK (QH I G5 Qm)<|ZT<|KE 1 wi rfl rfl<|QK (wJ I Qm .u2)<|ZT<|KE 2 wi rfl rfl<|QK (QH I G5 Qm)<|ZT<|KE 3 wi rfl rfl<|QK (wJ I Qm .u1)<|ZT<|KE 5 wi rfl rfl<|QK (QH I G5 Qm)<|ZT<|KE 6 wi rfl rfl<|QK (wJ I Qm .u2)<|ZT<|KE 7 wi rfl rfl<|QK (QH I G4 Qm)<|ZT<|KE 8 wi rfl rfl<|QK (wL I Qm .u1)<|ZT<|KE 10 wi rfl rfl<|QK (QH I G4 Qm)<|ZT<|KE 11 wi rfl rfl<|QK (wL I Qm .u2)<|ZT<|KE 12 wi rfl rfl<|QK (QH I G5 Qm) ?_
 refine ZT<|KE 13 wi rfl rfl<|QK (wJ I Qm .u1)<|ZT<|KE 15 wi rfl rfl<|QK (QH I G4 Qm)<|ZT<|KE 16 wi rfl rfl<|QK (wL I Qm .u2)<|ZT<|KE 17 wi rfl rfl<|QK (QH I G4 Qm)<|ZT<|KE 18 wi rfl rfl<|QK (wL I Qm .u1)<|ZT<|kS (A:=[20,21,22,23]) (r:=[4,9,14,19,24,25,26,27]) wi<|NX 4 wi wi wm w9 w6 rfl rfl rfl (λ_=>rfl) (λ_ _ f k=>EN (x:=x.lo) (y:=y.lo) f k.1.1 k.2.1 O O) λm=>NX 9 wi wi wm w9 w7 rfl rfl rfl (λ_=>rfl) (λ_ _ f k=>EN (x:=x.lo) (y:=y.hi) f k.1.1.1 k.1.2.2 O O) λj=>NX 14 wi wi wm w9 (λ_ h=>h.1.1) rfl rfl rfl (λ_=>rfl) (λ_ _ f k=>EN (x:=x.hi) (y:=y.lo) f k.1.1.1.2 k.1.1.2.1 O O) λi=>NX 19 wi wi wm w9 (λ_ h=>h.1.1.1) rfl rfl rfl (λ_=>rfl) (λ_ _ f k=>EN (x:=x.hi) (y:=y.hi) f k.1.1.1.1.2 k.1.1.1.2.2 O O) λg=>Ty 20 (d:=5) (T:=87) wi wi wm w9 (λ_ h=>h.1.1.1.1) wi wi Yu λb5=>Ty 21 (d:=6) (T:=87) wi wi wm (.cons _ w9) (λ_ h=>h.1.1.1.1) wi wi Yu λb6=>Ty 22 (d:=7) (T:=87) wi wi wm (.cons _ (.cons _ w9)) (λ_ h=>h.1.1.1.1) wi wi Yu λb7=>Ty 23 (d:=8) (T:=87) wi wi wm (.cons _ (.cons _ (.cons _ w9))) (λ_ h=>h.1.1.1.1) wi wi Yu λb8=>Dt (vs:=[_,_,_,_]) 24 wi wi wm (.cons _ (.cons _ (.cons _ (.cons _ w9)))) (λ_ h=>h.1.1.1.1) rfl rfl (λ_=>rfl) (λ_=>rfl) rfl Qm I .u3 (.cons _ (.cons _ (.cons _ w9))) .h4 wV<|Dt (vs:=[_,_,_,_]) 25 wi wi wm (.cons _ (.cons _ (.cons _ (.cons _ w9)))) (λ_ h=>h.1.1.1.1) rfl rfl (λ_=>rfl) (λ_=>rfl) rfl Qm I .u2 (.cons _ (.cons _ (.cons _ w9))) .h4 wV<|Dt (vs:=[_,_,_,_]) 26 wi wi wm (.cons _ (.cons _ (.cons _ (.cons _ w9)))) (λ_ h=>h.1.1.1.1) rfl rfl (λ_=>rfl) (λ_=>rfl) rfl Qm I .u1 (.cons _ (.cons _ (.cons _ w9))) .h4 wV<|Dt (vs:=[_,_,_,_]) 27 wi wi wm (.cons _ (.cons _ (.cons _ (.cons _ w9)))) (λ_ h=>h.1.1.1.1) rfl rfl (λ_=>rfl) (λ_=>rfl) rfl Qm I .here (.cons _ (.cons _ (.cons _ w9))) .h4 wV ?_
 refine uJ ?_ wi;refine QD<|QG<|kU (r:=[0,1,2,3,4,5,6,7,8,9,10,11,12,13]) (.cons_cons _ (.cons_cons _ (.cons_cons _ (.cons_cons _ (.cons _ w9))))) mixed wi rfl<|KE 0 wi rfl rfl<|QK (wJ I Qm .u3)<|ZT<|KE 1 wi rfl rfl<|QK (wJ I Qm .u2)<|ZT<|KE 2 wi rfl rfl<|QK (wJ I Qm .u1)<|ZT<|KE 3 wi rfl rfl<|QK (wJ I Qm .here)<|ZT<|KE 6 wi rfl rfl<|QK (wJ I Qm .u3)<|ZT<|KE 7 wi rfl rfl<|QK (wJ I Qm .u2)<|ZT<|KE 8 wi rfl rfl<|QK (wJ I Qm .u1)<|ZT<|KE 9 wi rfl rfl<|QK (wJ I Qm .here)<|ZT ?_
 refine QAc 4 10 wi wi rfl rfl rfl rfl rfl rfl ?_ ?_
 ·refine JK I (Jc Zg) Qm Yu I I (λL=>?_) (λw h=>h.imp (.cons_cons _ (.cons_cons _ (.cons_cons _ (.cons_cons _ (.cons _ w9))))) w6);refine ZT ?_;refine QAc 5 10 wi wi rfl rfl rfl rfl rfl rfl ?_ ?_
  ·refine QZ I (λ_ _ f k=>TO (x:=m) (r:=a.1*b.1) (ps:=[(j,a.1*b.2),(i,a.2*b.1),(g,a.2*b.2)]) f k.1.1.1.1.2 (Qz.of (n:=3) (sz:=4) (cs:=bP (λe:Fr×Rat=>GN e.1) [(j,a.1*b.2),(i,a.2*b.1),(g,a.2*b.2)]) k.2 I) (MT k.1.1.1.2 k.1.1.2 k.1.2) rfl wj ⟨O,MT (show J6 (a.1*b.2)<=100000000 by omega) (show J6 (a.2*b.1)<=100000000 by omega) (show J6 (a.2*b.2)<=100000000 by omega)⟩) (λz=>ZT<|BM 10 wi wi rfl rfl rfl ?_);refine JK I (Jc Zg) Qm Yu I I (λK=>?_) (λw h=>h.imp (.cons_cons _ (.cons_cons _ (.cons_cons _ (.cons_cons _ (.cons _ w9))))) λF h=>h.1.1);refine ZT<|BM 11 wi wi rfl rfl rfl<|QZ I (λ_ _ f k=>Bk (x:=m) (r:=a.1*b.1) (ps:=[(j,a.1*b.2),(i,a.2*b.1),(g,a.2*b.2)]) f k.1.1.1.1.1.1.2 (Qz.of (n:=3) (sz:=4) (cs:=bP (λe:Fr×Rat=>GN e.1) [(j,a.1*b.2),(i,a.2*b.1),(g,a.2*b.2)]) k.2 I) (MT k.1.1.1.1.1.2 k.1.1.1.1.2 k.1.1.1.2) rfl wj ⟨O,MT (show J6 (a.1*b.2)<=100000000 by omega) (show J6 (a.2*b.1)<=100000000 by omega) (show J6 (a.2*b.2)<=100000000 by omega)⟩) λo=>ZT<|KE 12 wi rfl rfl<|QK (XM I Ry Y4 (.cons (vs:=[_,_,_,_]) I I I .h4 (.cons (vs:=[_,_,_,_]) I I I (.skip (.skip (.skip (.skip .h4)))) .nil)))<|ZT<|BM 13 wi wi rfl rfl rfl<|Jg (vs:=[_,_,_,_,_,_,_,_]) I I I JY I .u4 w9 (λ_ h=>h.1.1.1.1) .h8 wZ<|ZT<|T9<|QD<|QW ?_
   exact QO (⟨z,o⟩) I (.Jo (c:=[_,_,_,_,_,_,_,_]) I JY .u4 .nil) (rfl) λF h9=>by unfold XP;rw[Bu];exact⟨h9.1.1.2,h9.2⟩
  refine JK I (Jc Zg) Qm Yu I I (λK=>?_) (λw h=>h.imp (.cons_cons _ (.cons_cons _ (.cons_cons _ (.cons_cons _ (.cons _ w9))))) w7);refine ZT<|BM 5 wi wi rfl rfl rfl<|QZ I (λ_ _ f k=>TO (x:=m) (r:=a.1*b.1) (ps:=[(j,a.1*b.2),(i,a.2*b.1),(g,a.2*b.2)]) f k.1.1.1.1.1.2 (Qz.of (n:=3) (sz:=4) (cs:=bP (λe:Fr×Rat=>GN e.1) [(j,a.1*b.2),(i,a.2*b.1),(g,a.2*b.2)]) k.1.2 I) (MT k.1.1.1.1.2 k.1.1.1.2 k.1.1.2) rfl wj ⟨O,MT (show J6 (a.1*b.2)<=100000000 by omega) (show J6 (a.2*b.1)<=100000000 by omega) (show J6 (a.2*b.2)<=100000000 by omega)⟩) λz=>ZT<|BM 11 wi wi rfl rfl rfl<|QZ I (λ_ _ f k=>Bk (x:=m) (r:=a.1*b.1) (ps:=[(j,a.1*b.2),(i,a.2*b.1),(g,a.2*b.2)]) f k.1.1.1.1.1.1.2 (Qz.of (n:=3) (sz:=4) (cs:=bP (λe:Fr×Rat=>GN e.1) [(j,a.1*b.2),(i,a.2*b.1),(g,a.2*b.2)]) k.1.2 I) (MT k.1.1.1.1.1.2 k.1.1.1.1.2 k.1.1.1.2) rfl wj ⟨O,MT (show J6 (a.1*b.2)<=100000000 by omega) (show J6 (a.2*b.1)<=100000000 by omega) (show J6 (a.2*b.2)<=100000000 by omega)⟩) λo=>ZT<|KE 12 wi rfl rfl<|QK (XM I Ry Y4 (.cons (vs:=[_,_,_,_]) I I I .h4 (.cons (vs:=[_,_,_,_]) I I I (.skip (.skip (.skip (.skip .h4)))) .nil)))<|ZT<|BM 13 wi wi rfl rfl rfl<|Jg (vs:=[_,_,_,_,_,_,_,_]) I I I JY I .u4 w9 (λ_ h=>h.1.1.1.1) .h8 wZ<|ZT<|T9<|QD<|QW ?_
  exact QO (⟨z,o⟩) I (.Jo (c:=[_,_,_,_,_,_,_,_]) I JY .u4 .nil) (rfl) λF h9=>by unfold XP;rw[Bu];exact⟨h9.1.2,h9.2⟩
 refine JK I (Jc Zg) Qm Yu I I (λK=>?_) (λw h=>h.imp (.cons_cons _ (.cons_cons _ (.cons_cons _ (.cons_cons _ (.cons _ w9))))) w6);refine ZT<|BM 4 wi wi rfl rfl rfl ?_
 refine JK I (Jc Zg) Qm Yu I I (λL=>?_) (λw h=>h.imp (.cons_cons _ (.cons_cons _ (.cons_cons _ (.cons_cons _ (.cons _ w9))))) w7);refine ZT<|BM 5 wi wi rfl rfl rfl<|QZ I (λ_ _ f k=>TO (x:=m) (r:=a.1*b.1) (ps:=[(j,a.1*b.2),(i,a.2*b.1),(g,a.2*b.2)]) f k.1.1.1.1.1.2 (Qz.of (n:=3) (sz:=4) (cs:=bP (λe:Fr×Rat=>GN e.1) [(j,a.1*b.2),(i,a.2*b.1),(g,a.2*b.2)]) k.2 I) (MT k.1.1.1.1.2 k.1.1.1.2 k.1.1.2) rfl wj ⟨O,MT (show J6 (a.1*b.2)<=100000000 by omega) (show J6 (a.2*b.1)<=100000000 by omega) (show J6 (a.2*b.2)<=100000000 by omega)⟩) λz=>ZT<|BM 11 wi wi rfl rfl rfl<|QZ I (λ_ _ f k=>Bk (x:=m) (r:=a.1*b.1) (ps:=[(j,a.1*b.2),(i,a.2*b.1),(g,a.2*b.2)]) f k.1.1.1.1.1.1.2 (Qz.of (n:=3) (sz:=4) (cs:=bP (λe:Fr×Rat=>GN e.1) [(j,a.1*b.2),(i,a.2*b.1),(g,a.2*b.2)]) k.1.1.2 I) (MT k.1.1.1.1.1.2 k.1.1.1.1.2 k.1.1.1.2) rfl wj ⟨O,MT (show J6 (a.1*b.2)<=100000000 by omega) (show J6 (a.2*b.1)<=100000000 by omega) (show J6 (a.2*b.2)<=100000000 by omega)⟩) λo=>ZT<|KE 12 wi rfl rfl<|QK (XM I Ry Y4 (.cons (vs:=[_,_,_,_]) I I I .h4 (.cons (vs:=[_,_,_,_]) I I I (.skip (.skip (.skip (.skip .h4)))) .nil)))<|ZT<|BM 13 wi wi rfl rfl rfl<|Jg (vs:=[_,_,_,_,_,_,_,_]) I I I JY I .u4 w9 (λ_ h=>h.1.1.1.1) .h8 wZ<|ZT<|T9<|QD<|QW ?_
 exact QO (⟨z,o⟩) I (.Jo (c:=[_,_,_,_,_,_,_,_]) I JY .u4 .nil) (rfl) λF h9=>by unfold XP;rw[Bu];exact⟨h9.1.2,h9.2⟩
theorem yb{x:Sp}{y:Fr}{r:Rat}(i:Fits F w)(h:X9 F x a)(j:Ja F y r)(g:GP a 20000000)(d:J6 r<=20000000):VO prog 99 [x.v,y.v] w F (XP a (r,r)):=by
 refine QU.go (G:=λF=>X9 F x a/\Ja F y r) func99 i ⟨h,j⟩ ?_;refine QNz<|Qv I (vs:=[_,_,_,_,_,_,_,_]) I λb2=>Qv I (vs:=[_,_,_,_]) I λb3=>Qe Y4 λb4=>QMt<|QG<|JO (.cons _ w9) mixed wi<|QK (wK I JY .u1)<|QK (wJ I Qm .here)<|QZ I (λ_ _ f k=>DS (x:=y) (r:=r) f k.2) λo=>QZ I (λ_ _ f k=>yf (x:=x) (y:=o) (a:=a) (b:=(r,r)) f k.1.1 k.2 g ⟨d,d⟩) λm=>Jg (vs:=[_,_,_,_,_,_,_,_]) I I I JY I .here w9 (λ_ h=>h.1.1) .h8 wZ<|Qw<|QD<|QW ?_
 exact QO (m) rfl (.Jo (c:=[_,_,_,_,_,_,_,_]) I JY .here .nil) (rfl) w8
abbrev Vy:Type:=Sp×Rat×Rat
variable{lb:List Vy}
instance :Inhabited Sp:=⟨⟨⟨⟨0,none,0,0⟩,⟨0,none,0,0⟩⟩,⟨⟨0,none,0,0⟩,⟨0,none,0,0⟩⟩⟩⟩
def X6(l:List Vy):List Value:=l.flatMap λe=>Zw e.1
structure ZV(F:Gs)(r:Sr)(l:List Vy)(vs:List (Rat×Rat)):Prop where
 row:Qz F r.q r.n 8 (X6 l)
 sp:∀e∈l,X9 F e.1 e.2
 val:l.map (·.2)=vs
 len:l.length=r.n
 cap:r.n<=r.cap
theorem ZV.le{r:Sr}{l:List Vy}{vs:List (Rat×Rat)}(h:ZV F r l vs)(k:Gs.le F F'):ZV F' r l vs:=⟨h.row.le k,λe he=>(h.sp e he).le k,h.val,h.len,h.cap⟩
instance{r:Sr}{l:List Vy}{vs:List (Rat×Rat)}: Up (λF=>ZV F r l vs):=⟨λk h=>ZV.le h k⟩
theorem ZV.P9{r:Sr}{l:List Vy}{vs:List (Rat×Rat)}(h:ZV F r l vs):vs.length=r.n:=by rw[<-h.val,af,h.len]
theorem ZV.el{r:Sr}{l:List Vy}{vs:List (Rat×Rat)}(h:ZV F r l vs){i:Nat}(hi:i<r.n):(el l i).2=YtogkbhegfnklhaaGreatDoor.el vs i:=by
 have h2:=h.len;rw[<-h.val,JB (show i<l.length by omega),JB (by rw[af];omega),aA]
theorem ZV.at{r:Sr}{l:List Vy}{vs:List (Rat×Rat)}(h:ZV F r l vs){i:Nat}(hi:i<r.n):X9 F (YtogkbhegfnklhaaGreatDoor.el l i).1 (YtogkbhegfnklhaaGreatDoor.el vs i):=by
 rw[<-h.el hi];exact h.sp _ (Qy (by rw[h.len];exact hi))
abbrev FU(P:Program)(f:FuncId)(args:List Value)(w:World)(F:Gs)(vs:List (Rat×Rat)):Prop:=QU P f args w F (λ(c:Sr×List Vy)=>c.1.v) λc F=>ZV F c.1 c.2 vs
theorem Gj(l:List Vy):(X6 l).length=l.length*8:=C0 (f:=λe:Vy=>Zw e.1) (λ_=>rfl) l
theorem Gk(x:Sp):∀v∈Zw x,v.oneCell'=true:=yM x.lo x.hi
theorem D8(l:List Vy)(e:Vy):X6 (l++[e])=X6 l++Zw e.1:=by unfold X6;rw[bN];simp
structure Hy(n:Nat)(f:Nat->Rat×Rat) where
 i:Nat
 v:Value
 ob:List (Nat×Obj)
 l:List Vy
 le:i<=n
 hr:Q2 89 8 v i (X6 l) ob
 hl:l.map (·.2)=(ai i).map f
def Hy.start(n:Nat)(f:Nat->Rat×Rat):Hy n f:=⟨0,.slice none 0 0,[],[],aq _,.nil,rfl⟩
def Hy.next{n:Nat}{f:Nat->Rat×Rat}(s:Hy n f)(h:s.i<n){v:Value}{ob:List (Nat×Obj)}(c:Sp)(x:Rat×Rat)(hr:Q2 89 8 v (s.i+1) (X6 s.l++Zw c) ob)(hx:x=f s.i):Hy n f :=
 ⟨s.i+1,v,ob,s.l++[(c,x)],h,by rw[D8];exact hr,by rw[ak,aC,ak,s.hl,hx];rfl⟩
theorem Hy.len{f:Nat->Rat×Rat}(s:Hy n f):s.l.length=s.i:=by
 have:=congrArg eY s.hl;simpa using this
def YP(F:Gs)(l:List Vy):Prop:=∀e∈l,X9 F e.1 e.2
theorem YP.nil(F:Gs):YP F []:=λ_ h=>by cases h
theorem YP.snoc{l:List Vy}{c:Sp}{x:Rat×Rat}(h:YP F l)(k:X9 F c x):YP F (l++[(c,x)]):=λe he=>by
 rcases List.mem_append.1 he with he | he
 ·exact h e he
 rw[List.mem_singleton.1 he];exact k
theorem Hy.box{f:Nat->Rat×Rat}(s:Hy n f)(h:s.i=n){F:Gs}{r:Sr}(hr:Qz F r.q r.n 8 (X6 s.l))(a:r.n=s.i)(hc:s.i<=r.cap)(b:YP F s.l):ZV F r s.l ((ai n).map f) :=
 ⟨hr,b,by rw[s.hl,h],by rw[s.len,a],by rw[a];exact hc⟩
theorem TG{β:Type}[Inhabited α]{f:α->β}{l:List α}{n:Nat}(h:l.length=n):(ai n).map (λi=>f (el l i))=l.map f:=by
 apply fg
 ·simp[h]
 intro i h1 h2;have:i<l.length:=by simpa using h2
 simp[JB this]
theorem L7{o:Obj}(h:(b,o)∈bs):∃f,Own bs b o f:=by
 induction bs with
 |nil=>cases h
 |cons x l ih =>
  rcases List.mem_cons.1 h with rfl | h
  ·exact⟨_,.here⟩
  obtain⟨f,a⟩:=ih h;exact⟨_,.there a⟩
section
variable[Dr][df:Df]{P:Program}{Q:Exit->Act->World->Prop}{N:Nat}{m:Sl}{E E0:Env}{ops:Array Oper}{l:List Oper}{w0:World}{F0:Gs}{bs:List (Nat×Obj)}{G:Gs->Prop}{d:Nat}{ty:TypeId}{pos:String}{aft:Array Edge}
theorem kW{T:TypeId}{v:Value}(hx:ev m x=some v)(hr:∀w,(Instr.makeInterface T v).run P w = .ok (.iface T v) w)(k:JD P ops Q E0 l N ((d,.iface T v)::m) E)(hd:Jx N (some d)=true:=by rfl):
  JD P ops Q E0 (⟨some d,.makeInterface T x,ty,pos,aft,none⟩::l) N m E:=λc a w ha b=>by
 refine .inr ⟨rfl,?_⟩;rw[if_pos (by simp[eL])];refine upon_value (w':=w) (v:=.iface T v) ?_ ⟨c w b,k c _ w (ha.put hd _) b⟩;simp[execOp,ha.ev hx,hr]
theorem kZ{γ:Type}{val:γ->Value}{g:γ->Gs->Prop}{T:TypeId}{f:FuncId}{b:String}{args:Array Operand}{i:Array TypeId}{v:Value}{vs:List Value}(hx:ev m x=some (.iface T v))(hv:Hk m args.toList=some vs)
  (hi:∀w,(invoke (.fn (.method b) #[]) (#[.iface T v]++vs.toArray)).run P w = .ok (.enter f (v::vs).toArray) w) (hc:∀w F,Fits F w->G F->QU P f (v::vs) w F val g)
  (k:∀c,JD P ops Q E0 l N ((d,val c)::m) ⟨w0,F0,bs,λF=>G F/\g c F⟩) (hd:Jx N (some d)=true:=by rfl):JD P ops Q E0 (⟨some d,.call ⟨.invoke x b,args,i⟩,ty,pos,aft,none⟩::l) N m ⟨w0,F0,bs,G⟩:=by
 intro E a w ha H;obtain⟨F,y⟩:=H;have o:=hc w F y.fits y.hG;refine .inr ⟨rfl,?_⟩;rw[if_pos (by simp[eL])];unfold Oper.wp;have K:args.map a.eval=vs.toArray:=by rw[<-ha.Hk hv];apply fc;simp
 have j:(execOp a.eval ⟨some d,.call ⟨.invoke x b,args,i⟩,ty,pos,aft,none⟩).run P w = .ok (.enter f (v::vs).toArray) w:=by
  simp only[execOp,resolve,ha.ev hx,eC,fJ,eu,K];exact hi w
 rw[j];simp only[fj];refine o.2.mono ?_;rintro e w' ⟨c,F',rfl,h1,h2,h3,h4,h5⟩;have z:St ⟨w0,F0,bs,λF=>G F/\g c F⟩ w':=⟨F',y.call h1 h2 h3 h4 h5⟩;exact⟨E w' (z.GW λ_ h=>h.1),k c (λw h=>E w (h.GW λ_ h=>h.1)) _ w' (ha.put hd (val c)) z⟩
end
theorem Am{q:Option Addr}{a:List (List UInt8×List UInt8)}(hF:Fits F w)(L:JU F)(hR:Qz F q n 2 (a.flatMap D0))(hn:a.length=n)(hb:n<=1000000)(hc:∀s∈a,XF s.1 s.2=0/\s.1.length<=1000000/\s.2.length<=1000000):
  FU prog 43 [.slice q n c] w F (a.map Jp):=by
 refine QU.go (G:=λF=>JU F/\Qz F q n 2 (a.flatMap D0)) func43 hF ⟨L,hR⟩ ?_;refine wA 14 I<|QA (Qb I ZG)<|QOm 4 I<|Jf (ι:=Hy (n) λi=>Jp (el a i)) [(6,_),(7,_)] (λi=>[(3,i.v),(8,.int .i64 ((i.i:Nat):Int))]) (λi=>i.ob) (λi F=>YP F i.l) (λi=>(n)-i.i) (Hy.start _ _) wT wT QNG (λ_ _=>YP.nil _) λi=>?_
 have hi:=i.le;refine wA 6 I ?_;refine QP I (λd=>?_) λd=>?_
 ·have E:i.i<n:=wg<|QOW d
  have K:=Qy (show i.i<a.length by omega);have o:=hc _ K;have x:=B3 o.1;refine QOn 6 I<|QA (Qs (n:=n) i.i (λF h9=>h9.1.2) rfl rfl ZG Xb O)<|QA (J0 (n:=n) (vs:=[tx (el a i.i).1,tx (el a i.i).2]) ((i.i)*2) (λF h9=>h9.1.2) O rfl Xb I λj v hv=>JX (f:=D0) (l:=a) Yy O hv)<|Qe Mh λb5=>QV (vs:=[_,_]) I I I Xb I .here .h2 wT<|QOm 4 I<|QA (wH I Xb .here)<|QL I (λ_ _ f k=>OS (lo:=(el a i.i).1) (hi:=(el a i.i).2) f k.1.1 x.1 x.2.1 o.2) λy=>JC I (Jc Xy) JY Y4 I I λb15=>?_
  refine Z1 (bs1:=[_]) (ob:=i.ob) (n:=i.i) (k:=1) (sz:=8) (news:=(Zw y)) I I Xy JY Y4 I SS i.hr (Src.row (off:=0) w8 (λj q hq=>by rw[aH];rw[List.getElem?_toArray];exact hq) rfl) O O (Gk _) (λv16 Y m=>?_);refine wB 2 I<|Qf<|QD<|QB<|QA (Qk I I O)<|wB 2 I ?_
  exact Qh (i.next E y (Jp (el a i.i)) m rfl) (by show n-(i.i+1)<n-i.i;omega) wV (.cons _ QNG) λF h9=>⟨h9.1.1.1,h9.1.1.2.snoc h9.1.2⟩
 have H:i.i=n:=wg<|QOX d
 refine Q7 ?_;refine QG<|QB ?_
 have hxl:=i.len;obtain⟨⟨U,rn,X⟩,z,g,h,b⟩:=Q2.fix (w0:=w) (F0:=F) (bs1:=[]) (G:=_) i.hr;dsimp only at g h b;subst g;refine Vz b ?_;rw[z];dsimp only[Sr.v];refine QOm 5 I ?_;exact QO ((⟨U,i.i,X⟩,i.l)) I (wN I) (rfl) λF h9=>by have:=i.box H (r:=⟨U,i.i,X⟩) h9.2 I h h9.1.2;rw[TG O (f:=Jp)]at this;exact this
structure TxJ(vs:List (Rat×Rat)) where
 i:Nat
 v:Value
 ob:List (Nat×Obj)
 le:i<=vs.length
 hr:Q2 41 2 v i ((vs.take i).flatMap λa=>[tx (Q5 a.1),tx (Q5 a.2)]) ob
 no:∀a∈vs.take i,(XV a.1||XV a.2)=false
theorem dE{vs:List (Rat×Rat)}(h:i<vs.length)(k:(XV (el vs i).1||XV (el vs i).2)=true):K1 vs=true:=by
 unfold K1;rw[fi];exact⟨_,Qy h,k⟩
theorem jN{vs:List (Rat×Rat)}(h:∀a∈vs,(XV a.1||XV a.2)=false):K1 vs=false:=by
 unfold K1;cases e:vs.any λs=>XV s.1||XV s.2 with
 |false=>rfl
 |true =>
  obtain⟨a,ha,k⟩:=List.any_eq_true.1 e;rw[h a ha]at k;cases k
def QAp(a:Rat×Rat):List Value:=[tx (Q5 a.1),tx (Q5 a.2)]
theorem yZ{r:Sr}{l:List Vy}{vs:List (Rat×Rat)}(hF:Fits F w)(hGl:JU F)(z:ZV F r l vs)(hb:r.n<=1000000)(hz:∀a∈vs,GP a 100000000):
  QU prog 44 [r.v] w F (λ(c:Sr)=>.tuple #[c.v,.int .i64 (if K1 vs=true then 4 else 0)]) (λc F=>Qz F c.q c.n 2 ((if K1 vs=true then[]else vs).flatMap QAp)/\c.n=(if K1 vs=true then[]else vs).length/\c.n<=c.cap):=by
 obtain⟨q,n,c⟩:=r;have g:=z.P9;have hll:=z.len;have hcap:=z.cap;have hel:=λi hi=>z.el (i:=i) hi;dsimp only[Sr.v]at *
 refine QU.go (G:=λF=>JU F/\ZV F ⟨q,n,c⟩ l vs) func44 hF ⟨hGl,z⟩ ?_;refine QNz<|QMv rfl<|wQ rfl<|QNz<|wQ rfl<|QG<|wR rfl<|QA (Qb rfl Xy)<|QMu rfl<|QMt<|QQ<|Jf (ι:=TxJ vs) [(7,_),(8,_)] (λi=>[(4,i.v),(9,.int .i64 ((i.i:Nat):Int))]) (λi=>i.ob) (λi F=>True) (λi=>n-i.i) (⟨0,_,[],aq _,.nil,λ_ h=>by cases h⟩) wT wT QNG wy λi=>?_
 have hi:=i.le;refine wA 6 I ?_;refine QP I (λb=>?_) λb=>?_
 ·have Y:i.i<n:=wg<|QOW b
  have hem:=Qy (show i.i<vs.length by omega);have H:=hz _ hem;refine QOn 6 I<|QA (Qs (n:=n) i.i (λF h9=>h9.1.2.row) rfl rfl Xy JY O)<|QA (J0 (n:=n) (vs:=[.int .i64 (el l i.i).1.lo.n.s,.slice (el l i.i).1.lo.n.q (el l i.i).1.lo.n.n (el l i.i).1.lo.n.cap,.int .i64 (el l i.i).1.lo.d.s,.slice (el l i.i).1.lo.d.q (el l i.i).1.lo.d.n (el l i.i).1.lo.d.cap,.int .i64 (el l i.i).1.hi.n.s,.slice (el l i.i).1.hi.n.q (el l i.i).1.hi.n.n (el l i.i).1.hi.n.cap,.int .i64 (el l i.i).1.hi.d.s,.slice (el l i.i).1.hi.d.q (el l i.i).1.hi.d.n (el l i.i).1.hi.d.cap]) ((i.i)*8) (λF h9=>h9.1.2.row) O rfl JY I λj v hv=>JX (f:=(λe=>Zw e.1)) (l:=l) (λ_=>rfl) O hv)<|Qe Y4 λb6=>QV (vs:=[_,_,_,_,_,_,_,_]) I I I JY I .here .h8 wZ<|QOm 5 I<|QA (wK I JY .here)<|QL I (λ_ _ f k=>yi (x:=(el l i.i).1) (a:=el vs i.i) f k.1.1 (k.1.2.at Y) H) λ_=>QE<|QD ?_
  refine QP I (λb=>?_) λb=>?_
  ·have hl:=dE (show i.i<vs.length by omega) b;refine wA 6 I<|X4 ?_
   exact Xm (⟨none,0,0⟩) I (wO I I) (by rw[if_pos hl]) λF _=>by rw[if_pos hl];exact⟨Qz.nil F _ _,rfl,bm _⟩
  have hc14:=b;refine QOn 4 I<|QA (wK I JY .here)<|QL I (λ_ _ f k=>pO (x:=(el l i.i).1) (a:=el vs i.i) f k.1.1.1 (k.1.1.2.at Y) H) λ_=>JC I (Jc ZG) Xb Mh I I λb18=>?_
  refine Z1 (bs1:=[_]) (ob:=i.ob) (n:=i.i) (k:=1) (sz:=2) (news:=[tx (Q5 (el vs i.i).1),tx (Q5 (el vs i.i).2)]) I I ZG Xb Mh I QDW i.hr (Src.row (off:=0) w8 (λj q hq=>by rw[aH];rw[List.getElem?_toArray];exact hq) rfl) O O (Zd wT) (λv19 E U=>?_);refine wB 2 I<|Qf<|QD<|QB<|QA (Qk I I O)<|wB 2 I ?_
  exact Qh (⟨i.i+1,v19,E,O,by rw[Zb O,bN];simpa using U,λa ha=>by
  rw[Zb O]at ha;rcases List.mem_append.1 ha with ha | ha
  ·exact i.no a ha
  rw[List.mem_singleton.1 ha];exact hc14⟩) (by show n-(i.i+1)<n-i.i;omega) wV (.cons _ QNG) λF h=>⟨h.1.1.1.1,trivial⟩
 have m:i.i=n:=wg<|QOX b
 refine Q7 ?_;refine QG<|QB ?_
 have X:K1 vs=false:=jN λa ha=>i.no a (by rw[m,<-g,bw];exact ha);obtain⟨⟨rq,rn,rc⟩,hv2,K,L,y⟩:=Q2.fix (w0:=w) (F0:=F) (bs1:=[]) (G:=_) i.hr;dsimp only at K L y;subst K;refine Vz y ?_;rw[hv2];dsimp only[Sr.v];refine QOm 6 I ?_;exact Xm (⟨rq,i.i,rc⟩) I (wO I I) (by rw[if_neg (by rw[X];decide)]) λF ⟨⟨⟨hGl,z⟩,_⟩,o⟩=>by rw[if_neg (by rw[X];decide)];rw[m,<-g,bw]at o;exact⟨by dsimp only;rw[m,<-g];exact o,m.trans g.symm,L⟩
abbrev BxL:Type:=Sr×List Vy
instance :Inhabited BxL:=⟨(⟨none,0,0⟩,[])⟩
def QCd(F:Gs)(ls:List BxL):Prop:=∀e∈ls,ZV F e.1 e.2 (e.2.map (·.2))
structure VaI(n:Nat) where
 i:Nat
 x:Sp
 le:i<=n
structure SyP where
 b:Nat
 rt:Sr
 ps:List Px
 st:Sr
 sl:List Vy
structure Ma(F:Gs)(y:SyP)(rs:List (List Tm))(vs:List (Rat×Rat)):Prop where
 ZH:F y.b=some (#[y.rt.v,y.st.v],131)
 row:Qz F y.rt.q y.rt.n 1 (y.ps.map λe=>e.1.v)
 pls:LG F y.ps
 val:qk y.ps=rs
 len:y.ps.length=y.rt.n
 box:ZV F y.st y.sl vs
theorem Ma.le{y:SyP}{rs:List (List Tm)}{vs:List (Rat×Rat)}(h:Ma F y rs vs)(k:Gs.le F F'):Ma F' y rs vs:=⟨k _ _ h.ZH,h.row.le k,λe he=>(h.pls e he).le k,h.val,h.len,h.box.le k⟩
theorem Ma.EC{y:SyP}{rs:List (List Tm)}{vs:List (Rat×Rat)}(h:Ma F y rs vs):rs.length=y.rt.n:=by rw[<-h.val,<-h.len];simp[qk]
theorem Ma.at{y:SyP}{rs:List (List Tm)}{vs:List (Rat×Rat)}(h:Ma F y rs vs){i:Nat}(hi:i<y.rt.n):Ws F (el y.ps i).1 (el y.ps i).2 (KP (el y.ps i).2)/\KP (el y.ps i).2=el rs i:=by
 have h1:=h.len;refine⟨h.pls _ (Qy O),?_⟩;rw[<-h.val,JB (show i<y.ps.length by omega),JB (by simp[qk];omega)];simp[qk]
structure QLJ(f:Nat->Rat×Rat)(n:Nat) where
 v:Value
 ob:List (Nat×Obj)
 l:List Vy
 hr:Q2 89 8 v n (X6 l) ob
 hl:l.map (·.2)=(ai n).map f
def I8(a:Rat)(k:Nat):Rat×Rat:=if k=0 then(a,a)else(0,0)
theorem Ti(a:Rat)(n:Nat):(ai (n+1)).map (I8 a)=WT a n:=by
 unfold WT;rw[List.range_succ_eq_map,aw,bO];congr 1;apply fg
 ·simp
 intro i h1 h2;simp[I8]
structure CsJ(n:Nat)(a:Rat) where
 s:Hy (n+1) (I8 a)
 j:Nat
 hj:s.i=j+1
structure QAX(va vb:List (Rat×Rat)):Prop where
 el:∀k,k<va.length->GP (el va k) 20000000/\GP (el vb k) 20000000
 cv:∀k,k<va.length->∀i,i<=k+1->GP (Vq va vb k i) 50000000
theorem Bs(a b:List (Rat×Rat))(k j:Nat):Vq a b k (j+1)=RQ (Vq a b k j) (XP (el a j) (el b (k-j))):=by
 unfold Vq;rw[aC,au];rfl
theorem xy(a b:List (Rat×Rat)):(ai a.length).map (λk=>RQ (el a k) (el b k))=VY a b:=rfl
structure QHD(bs:List (Nat×Obj))(b n c:Nat)(l:List Vy) where
 rest:List Value
 hm:(b,eF (X6 l++rest).toArray 89 (0,0))∈bs
 hl:l.length=n
theorem zK{l:List Vy}{j:Nat}{v:Value}(h:k<l.length)(hv:(Zw (el l k).1)[j]?=some v):(X6 l++rest)[0+k*8+j]?=some v:=by
 have h1:(X6 l)[k*8+j]?=some v:=JX (f:=λe:Vy=>Zw e.1) (k:=8) (λ_=>rfl) h hv;have a:k*8+j<(X6 l).length:=by
  rcases aD (k*8+j) (X6 l).length with g | g
  ·exact g
  rw[List.getElem?_eq_none g]at h1;cases h1
 rw[aH,List.getElem?_append_left a];exact h1
theorem Pj{x:Fr}{a:Rat}{n:Nat}(L:∀F,G F->Ja F x a)(Y:n<=1000):Jy prog 96 [x.v,.int .i64 (n:Int)] ⟨w0,F0,bs,G⟩ (λ(c:QLJ (I8 a) (n+1))=>.agg #[c.v]) (λc=>⟨w0,F0,c.ob++bs,λF=>G F/\YP F c.l⟩):=by
 refine Jy.intro func96 rfl wm rfl rfl<|QNz<|Qv rfl (vs:=[_,_,_,_]) rfl λb2=>Qe BP λb4=>QMt<|QNz<|QA (wJ I Qm .u1)<|QL rfl (λ_ _ f k=>DS (x:=x) (r:=a) f (L _ k)) λy=>KK rfl (Jc Xy) JY Y4 rfl rfl λb8=>QA (XM rfl cF BP (.cons (vs:=[_]) rfl rfl rfl .h1 .nil))<|Qe BP λU=>QV (vs:=[_]) rfl rfl rfl Xg rfl .here .h1 wS<|QOm 4 I<|qV (.cons _ (List.perm_middle (l₁:=[_,_])).symm)<|QB<|QMu rfl<|QMu rfl<|QMt<|QQ<|Jf (ι:=CsJ n a) [(4,_),(5,_),(10,_)] (λi=>[(11,.int .i64 ((i.j:Nat):Int))]) (λi=>(U,.cells [i.s.v].toArray 94 (0,0))::(b4,.cells [.slice none 0 0].toArray 94 (0,0))::(b2,.cells (GN x).toArray 87 (0,0))::(i.s.ob++bs)) (λi F=>YP F i.s.l) (λi=>n-i.j) (⟨⟨1,_,_,[(y,(a,a))],O,.some (n:=1) (l:=X6 [(y,(a,a))]) (rest:=[]) rfl rfl (bm _) wj,rfl⟩,0,rfl⟩) wU wS QNG (λ_ h=>by intro e he;rw[List.mem_singleton.1 he];exact h.2) λi=>?_
 have hi:=i.s.le;have H:=i.hj;refine wA 6 I ?_;refine QP I (λhc=>?_) λhc=>?_
 ·have E:i.j<n:=wg<|QOW hc
  refine QOn 4 I<|Jq 7 tD mixed wi wi ?_
  simp only[aM,aY,aR,aZ];refine QK (QH I ZO XG)<|QK (Qa I XG .here .h1)<|QZ I (λ_ _ f k=>f_g (n:=0) f wj wj) λo=>QZ I (λ_ _ f k=>DS (x:=o) (r:=((0:Int):Rat)) f k.2) λg=>?_
  refine JK I (Jc Xy) JY Y4 I I (λX=>?_) (λw h=>h.imp tD λF h=>h.1.1);refine VG (aX [_,_,_] i.s.ob bs) ?_;refine V1 (n:=i.s.i) (k:=1) (sz:=8) (news:=Zw g) rfl rfl Xy JY Y4 I SS i.s.hr (Src.row (off:=0) w8 (λj q z=>by rw[aH];rw[List.getElem?_toArray];exact z) rfl) O O (Gk _) tD (λ_ h=>h.1.1.1) (λm d b=>?_);refine VG (aX d [_,_,_] bs)<|QK (QH I ZO XG)<|Zf<|QV (vs:=[m]) I I b.one.2 XG I .here .h1 ⟨b.one.1,trivial⟩<|QE<|Qf<|QD<|QB<|QA (Qk I I O)<|wB 2 I ?_
  exact Qh (⟨i.s.next O g (I8 a i.s.i) b rfl,i.j+1,by show i.s.i+1=_;omega⟩) (by show n-(i.j+1)<n-i.j;omega) wV QNG λF h9=>⟨⟨h9.1.1.1.1.1,h9.1.1.1.1.2⟩,h9.1.1.1.2.snoc (by rw[show I8 a i.s.i=(((0:Int):Rat),((0:Int):Rat)) by unfold I8;rw[if_neg O];rfl];exact h9.1.2)⟩
 have K:i.j=n:=wg<|QOX hc
 refine Q7 ?_;refine QNz<|QA (QR (vs:=[_]) I Xg .here .h1 rfl)<|QV (vs:=[i.s.v]) I I I Xg I .u1 .h1 ⟨i.s.hr.one.1,trivial⟩<|QMt<|QW ?_
 exact Zr (⟨i.s.v,i.s.ob,i.s.l,by have e:i.s.i=n+1:=O;have h:=i.s.hr;rw[e]at h;exact h,by rw[i.s.hl,show i.s.i=n+1 by omega]⟩) I (.Jo (c:=[_]) I Xg .u1 .nil) (rfl) λw h=>h.imp (.cons _ (.cons _ (.cons _ QNG))) λF h9=>⟨h9.1.1,h9.2⟩
theorem Ph{x:Fr}{a:Rat}{n:Nat}(y:Fits F w)(z:Ja F x a)(o:n<=1000):QU prog 96 [x.v,.int .i64 (n:Int)] w F (λ(c:Sr×List Vy)=>.agg #[c.1.v]) (λc F=>ZV F c.1 c.2 (WT a n)):=by
 have h:=Pj (w0:=w) (F0:=F) (bs:=[]) (G:=λF'=>Gs.le F F') (x:=x) (a:=a) (λF' h=>z.le h) o;refine⟨h.1,(h.2 w (St.start y λ_ h=>h)).mono ?_⟩;rintro e w' ⟨c,rfl,k⟩;dsimp only at k;rw[bZ]at k;obtain⟨s,hv,b,m,j⟩:=Q2.fix (w0:=w) (F0:=F) (bs1:=[]) c.hr;obtain⟨F',d⟩:=j w' k;exact⟨(s,c.l),F',by show Ending.returned (.agg #[c.v])=_;rw[hv],d.ext,d.le,d.old,d.fits,λF'' i=>⟨by rw[b];exact(d.g F'' i).2,(d.g F'' i).1.2,by rw[c.hl,Ti],by rw[b,<-af (f:=λe:Vy=>e.2),c.hl];simp,by rw[b];exact m⟩⟩
theorem QBL{ra rb:Sr}{la:List Vy}{va vb:List (Rat×Rat)}(hF:Fits F w)(ha:ZV F ra la va)(hb:ZV F rb lb vb)(hn:ra.n<=rb.n)(hbn:ra.n<=1000000)(U:∀x∈va,GP x 100000000)(L:∀x∈vb,GP x 100000000):
  QU prog 98 [.agg #[ra.v],.agg #[rb.v]] w F (λ(c:Sr×List Vy)=>.agg #[c.1.v]) (λc F=>ZV F c.1 c.2 (VY va vb)):=by
 have X:=ha.P9;have hvb:=hb.P9;have hla:=ha.len;have hlb:=hb.len;dsimp only[Sr.v];refine QU.go (G:=λF=>ZV F ra la va/\ZV F rb lb vb) func98 hF ⟨ha,hb⟩ ?_;refine QNz<|Qv I (vs:=[_]) I λb2=>Qv I (vs:=[_]) I λb3=>Qe BP λb4=>QMt<|QNz<|Qe BP λb5=>QOm 5 I<|QA (QH I ZO XG)<|QA (Qa I XG .u3 .h1)<|QA (Qb I Xy)<|QOm 4 I<|Jf (ι:=Hy (ra.n) λk=>RQ (el va k) (el vb k)) [(2,_),(3,_),(4,_),(5,_),(9,_)] (λi=>[(10,.int .i64 ((i.i:Nat):Int))]) (λi=>(b5,.cells [i.v].toArray 94 (0,0))::(b4,.cells [.slice none 0 0].toArray 94 (0,0))::(b3,.cells [.slice rb.q rb.n rb.cap].toArray 94 (0,0))::(b2,.cells [.slice ra.q ra.n ra.cap].toArray 94 (0,0))::i.ob) (λi F=>YP F i.l) (λi=>(ra.n)-i.i) (Hy.start _ _) wW wS QNG (λ_ _=>YP.nil _) λi=>?_
 have hi:=i.le;refine wA 6 I ?_;refine QP I (λhc=>?_) λhc=>?_
 ·have E:i.i<ra.n:=wg<|QOW hc
  refine QOn 10 I<|Jq 17 (.cons_cons _ (.cons_cons _ (.cons_cons _ (.cons_cons _ tA)))) mixed wi wi ?_
  simp only[aM,aY,aR,aZ];refine QK (QH I ZO XG)<|QK (Qa I XG .here .h1)<|QK (QH I ZO XG)<|QK (Qa I XG .u3 .h1)<|QK (QC I)<|QK (Qs (n:=ra.n) i.i (λF h9=>h9.1.1.row) rfl rfl Xy JY O)<|QK (J0 (n:=ra.n) (vs:=[.int .i64 (el la i.i).1.lo.n.s,.slice (el la i.i).1.lo.n.q (el la i.i).1.lo.n.n (el la i.i).1.lo.n.cap,.int .i64 (el la i.i).1.lo.d.s,.slice (el la i.i).1.lo.d.q (el la i.i).1.lo.d.n (el la i.i).1.lo.d.cap,.int .i64 (el la i.i).1.hi.n.s,.slice (el la i.i).1.hi.n.q (el la i.i).1.hi.n.n (el la i.i).1.hi.n.cap,.int .i64 (el la i.i).1.hi.d.s,.slice (el la i.i).1.hi.d.q (el la i.i).1.hi.d.n (el la i.i).1.hi.d.cap]) ((i.i)*8) (λF h9=>h9.1.1.row) O rfl JY I λj v hv=>JX (f:=(λe=>Zw e.1)) (l:=la) (λ_=>rfl) O hv)<|kW (v:=(el la i.i).1.v) rfl (λ_=>wi)<|QK (QH I ZO XG)<|QK (Qa I XG .u2 .h1)<|QK (QC I)<|QK (Qs (n:=rb.n) i.i (λF h9=>h9.1.2.row) rfl rfl Xy JY O)<|QK (J0 (n:=rb.n) (vs:=[.int .i64 (el lb i.i).1.lo.n.s,.slice (el lb i.i).1.lo.n.q (el lb i.i).1.lo.n.n (el lb i.i).1.lo.n.cap,.int .i64 (el lb i.i).1.lo.d.s,.slice (el lb i.i).1.lo.d.q (el lb i.i).1.lo.d.n (el lb i.i).1.lo.d.cap,.int .i64 (el lb i.i).1.hi.n.s,.slice (el lb i.i).1.hi.n.q (el lb i.i).1.hi.n.n (el lb i.i).1.hi.n.cap,.int .i64 (el lb i.i).1.hi.d.s,.slice (el lb i.i).1.hi.d.q (el lb i.i).1.hi.d.n (el lb i.i).1.hi.d.cap]) ((i.i)*8) (λF h9=>h9.1.2.row) O rfl JY I λj v hv=>JX (f:=(λe=>Zw e.1)) (l:=lb) (λ_=>rfl) O hv)<|kZ (v:=(el la i.i).1.v) (vs:=[(el lb i.i).1.v]) I I (λ_=>wi) (λ_ _ f k=>yj (x:=(el la i.i).1) (y:=(el lb i.i).1) (a:=el va i.i) (b:=el vb i.i) f (k.1.1.at E) (k.1.2.at (show i.i<rb.n by omega)) (U _ (Qy O)) (L _ (Qy O))) λH=>?_
  refine JK I (Jc Xy) JY Y4 I I (λb27=>?_) (λw h=>h.imp (.cons_cons _ (.cons_cons _ (.cons_cons _ (.cons_cons _ tA)))) w7);refine VG (ax (l₁:=[_,_,_,_])) ?_;refine V1 (n:=i.i) (k:=1) (sz:=8) (news:=Zw H) rfl rfl Xy JY Y4 I SS i.hr (Src.row (off:=0) w8 (λj q hq=>by rw[aH];rw[List.getElem?_toArray];exact hq) rfl) O O (Gk _) QNG (λ_ h=>h.1.1) (λK ob28 g=>?_);refine VG (ax (l₂:=[_,_,_,_]))<|QK (QH I ZO XG)<|Zf<|QV (vs:=[K]) I I g.one.2 XG I .here .h1 ⟨g.one.1,trivial⟩<|QE<|Qf<|QD<|QB<|QA (Qk I I O)<|wB 2 I ?_
  exact Qh (i.next E H _ g rfl) (by show ra.n-(i.i+1)<ra.n-i.i;omega) wX QNG λF h9=>⟨⟨h9.1.1.1.1,h9.1.1.1.2⟩,h9.1.1.2.snoc h9.1.2⟩
 have hge:i.i=ra.n:=wg<|QOX hc
 refine Q7 ?_;refine QG<|QB ?_
 have hxl:=i.len;obtain⟨⟨rq,rn,rc⟩,Y,o,z,m⟩:=Q2.fix (w0:=w) (F0:=F) (bs1:=[_,_,_,_]) (G:=_) i.hr;dsimp only at o z m;subst o;refine Vz m ?_;rw[Y];dsimp only[Sr.v];refine QA (QR (vs:=[_]) I Xg .here .h1 rfl)<|QV (vs:=[_]) I I I Xg I .u1 .h1 wS<|QMt<|QW ?_
 exact QO ((⟨rq,i.i,rc⟩,i.l)) I (.Jo (c:=[_]) I Xg .u1 .nil) (rfl) λF h9=>by have:=i.box hge (r:=⟨rq,i.i,rc⟩) h9.2 I z h9.1.2;rw[<-xy,X];exact this
theorem vg{ra:Sr}{la:List Vy}{va vb:List (Rat×Rat)}{bb nb cb:Nat}(ha:∀F,G F->ZV F ra la va)(hin:QHD bs bb nb cb lb)(hvb:lb.map (·.2)=vb)(hsb:∀F,G F->YP F lb)(hla:la.length=ra.n)(hva:va.length=ra.n)(hn:ra.n<=nb)(hbn:ra.n<=1000000)(K:QAX va vb):
  Jy prog 169 [.agg #[ra.v],.agg #[.slice (some ⟨bb,0,none⟩) nb cb]] ⟨w0,F0,bs,G⟩ (λ(c:Sr×List Vy)=>.agg #[c.1.v]) (λc=>⟨w0,F0,bs,λF=>G F/\ZV F c.1 c.2 (Yi va vb)⟩):=by
 obtain⟨rest,hm,hll⟩:=hin;obtain⟨fo,hfo⟩:=L7 hm;have X:∀k,k<nb->(el lb k).2=el vb k:=λk hk=>by rw[<-hvb,JB (show k<lb.length by omega),JB (by rw[af];omega),aA]
 dsimp only[Sr.v];refine Jy.intro func169 rfl wm rfl rfl<|QNz<|Qv rfl (vs:=[_]) rfl λb2=>Qv rfl (vs:=[_]) rfl λb3=>Qe BP λb4=>QMt<|QNz<|Qe BP λb5=>QOm 5 I<|QA (QH rfl ZO XG)<|QA (Qa rfl XG .u3 .h1)<|QA (Qb rfl Xy)<|QMu rfl<|QMt<|QQ<|Jf (ι:=Hy (ra.n) λk=>Vq va vb k (k+1)) [(2,_),(3,_),(4,_),(5,_),(11,_)] (λi=>[(12,.int .i64 ((i.i:Nat):Int))]) (λi=>(b5,.cells [i.v].toArray 94 (0,0))::(b4,.cells [.slice none 0 0].toArray 94 (0,0))::(b3,.cells [.slice (some ⟨bb,0,none⟩) nb cb].toArray 94 (0,0))::(b2,.cells [.slice ra.q ra.n ra.cap].toArray 94 (0,0))::(i.ob++bs)) (λi F=>YP F i.l) (λi=>(ra.n)-i.i) (Hy.start _ _) wW wS QNG (λ_ _=>YP.nil _) λi=>?_
 have hi:=i.le;refine wA 6 I ?_;refine QP I (λhc=>?_) λhc=>?_
 ·have hlt:i.i<ra.n:=wg<|QOW hc
  refine QOn 12 I<|QL I (λ_ _ f k=>f_g (n:=0) f wj wj) λc15=>QL I (λ_ _ f k=>DS (x:=c15) (r:=((0:Int):Rat)) f k.2) λc16=>Qe Y4 λb7=>QV (vs:=[_,_,_,_,_,_,_,_]) I I I JY I .here .h8 wZ<|QOm 6 I<|QA (Qk I I O)<|QOm 4 I<|Jf (ι:=VaI (i.i+1)) [(2,_),(3,_),(4,_),(5,_),(6,_),(7,_),(11,_),(12,_),(18,_)] (λg=>[(19,.int .i64 ((g.i:Nat):Int))]) (λg=>(b7,.cells (Zw g.x).toArray 89 (0,0))::(b5,.cells [i.v].toArray 94 (0,0))::(b4,.cells [.slice none 0 0].toArray 94 (0,0))::(b3,.cells [.slice (some ⟨bb,0,none⟩) nb cb].toArray 94 (0,0))::(b2,.cells [.slice ra.q ra.n ra.cap].toArray 94 (0,0))::(i.ob++bs)) (λg F=>X9 F g.x (Vq va vb i.i g.i)) (λg=>i.i+1-g.i) (⟨0,c16,aq _⟩) wa wS QNG w8 λg=>?_
  have hj:=g.le;refine wA 6 I ?_;refine QP I (λhc=>?_) λhc=>?_
  ·have L:g.i<i.i+1:=wg<|QOW hc
   refine QOn 10 I<|Jq 15 QNG mixed wi wi ?_
   simp only[aM,aY,aR,aZ];refine QK (wK I JY .here)<|QK (QH I ZO XG)<|QK (Qa I XG .u4 .h1)<|QK (QC I)<|QK (Qs (n:=ra.n) (g.i) (λF h9=>(ha _ h9.1.1.1.1).row) rfl rfl Xy JY O)<|QK (J0 (n:=ra.n) (vs:=[.int .i64 (el la (g.i)).1.lo.n.s,.slice (el la (g.i)).1.lo.n.q (el la (g.i)).1.lo.n.n (el la (g.i)).1.lo.n.cap,.int .i64 (el la (g.i)).1.lo.d.s,.slice (el la (g.i)).1.lo.d.q (el la (g.i)).1.lo.d.n (el la (g.i)).1.lo.d.cap,.int .i64 (el la (g.i)).1.hi.n.s,.slice (el la (g.i)).1.hi.n.q (el la (g.i)).1.hi.n.n (el la (g.i)).1.hi.n.cap,.int .i64 (el la (g.i)).1.hi.d.s,.slice (el la (g.i)).1.hi.d.q (el la (g.i)).1.hi.d.n (el la (g.i)).1.hi.d.cap]) ((g.i)*8) (λF h9=>(ha _ h9.1.1.1.1).row) O rfl JY I λj v hv=>JX (f:=(λe=>Zw e.1)) (l:=la) (λ_=>rfl) O hv)<|QK (QH I ZO XG)<|QK (Qa I XG .u3 .h1)<|QK (QC I)<|QK (QC I)<|QK (Jv I I O)<|QK (Ql (i:=i.i-g.i) rfl wM Xy JY O)<|QK (DR (vs:=Zw (el lb (i.i-g.i)).1) rfl JY (.there (.there (.there (.there (.there (hfo.skip i.ob)))))) I λj v hv=>zK O hv)<|QZ I (λ_ _ f k=>yf (x:=(el la g.i).1) (y:=(el lb (i.i-g.i)).1) (a:=el va g.i) (b:=el vb (i.i-g.i)) f ((ha _ k.1.1.1.1).at (show g.i<ra.n by omega)) (by rw[<-X _ (show i.i-g.i<nb by omega)];exact hsb _ k.1.1.1.1 _ (Qy O)) (K.el g.i O).1 (K.el (i.i-g.i) O).2) λc35=>QZ I (λ_ _ f k=>yj (x:=g.x) (y:=c35) (a:=Vq va vb i.i g.i) (b:=XP (el va g.i) (el vb (i.i-g.i))) f k.1.2 k.2 ((K.cv _ O _ O).mono wj) ((Sk (K.el g.i O).1 (K.el (i.i-g.i) O).2).mono wj)) λY=>Zf<|QV (vs:=[_,_,_,_,_,_,_,_]) I I I JY I .here .h8 wZ<|QE<|Qf<|QD<|QB<|QA (Qk I I O)<|wB 2 I ?_
   exact Qh (⟨g.i+1,Y,L⟩) (by show i.i+1-(g.i+1)<i.i+1-g.i;omega) wb QNG λF ⟨⟨⟨⟨⟨⟨hG,hS⟩,h15⟩,h16⟩,hY⟩,h35⟩,h36⟩=>⟨⟨⟨⟨hG,hS⟩,h15⟩,h16⟩,by show X9 F Y (Vq va vb i.i (g.i+1));rw[Bs];exact h36⟩
  have U:g.i=i.i+1:=wg<|QOX hc
  refine Q7 ?_;refine QB<|QA (QH I ZO XG)<|QA (Qa I XG .u1 .h1)<|QA (wK I JY .here)<|JC I (Jc Xy) JY Y4 I I λb41=>X5 (aX [_,_,_,_,_] i.ob bs) ?_
  refine Ed (bs:=[_,_,_,_,_]++bs) (n:=i.i) (k:=1) (sz:=8) (news:=Zw g.x) rfl rfl Xy JY Y4 I SS i.hr (Src.row (off:=0) w8 (λj q hq=>by rw[aH];rw[List.getElem?_toArray];exact hq) rfl) O O (Gk _) (λv42 z m=>?_);refine X5 (aX z [_,_,_,_,_] bs)<|QA (QH I ZO XG)<|QV (vs:=[v42]) I I m.one.2 XG I .u1 .h1 ⟨m.one.1,trivial⟩<|QE<|Qf<|QD<|QB<|QA (Qk I I O)<|wB 2 I ?_
  exact Qh (i.next hlt g.x _ m rfl) (by show ra.n-(i.i+1)<ra.n-i.i;omega) wX (.cons _ QNG) λF h9=>⟨h9.1.1.1.1.1,h9.1.1.1.1.2.snoc (by have e:=h9.1.2;rw[U]at e;exact e)⟩
 have hge:i.i=ra.n:=wg<|QOX hc
 refine Q7 ?_;refine QNz<|X5 (.cons _ (.cons _ (.cons _ (.cons _ ax)))) ?_
 have hxl:=i.len;obtain⟨⟨rq,rn,rc⟩,hv2,E,H,o⟩:=Q2.fix (w0:=w0) (F0:=F0) (bs1:=_::_::_::_::bs) (G:=_) i.hr;dsimp only at E H o;subst E;refine Vz o ?_;rw[hv2];dsimp only[Sr.v];refine QA (QR (vs:=[_]) I Xg .here .h1 rfl)<|QV (vs:=[_]) I I I Xg I .u1 .h1 wS<|QMt<|QW ?_
 exact Zr ((⟨rq,i.i,rc⟩,i.l)) I (.Jo (c:=[_]) I Xg .u1 .nil) (rfl) λw h=>h.imp (.cons _ (.cons _ (.cons _ (.cons _ QNG)))) λF h9=>⟨h9.1.1,by have:=i.box hge (r:=⟨rq,i.i,rc⟩) h9.2 I H h9.1.2;unfold Yi;rw[hva];exact this⟩
section
variable[Dr][df:Df]{P:Program}{Q:Exit->Act->World->Prop}{N:Nat}{m:Sl}{E:Env}{ops:Array Oper}{l:List Oper}{d:Nat}{ty:TypeId}{pos:String}{aft:Array Edge}
theorem QAd{o:Op}{v:Value}(h:Qt P N m (St E) o ty v)(k:JSI P ops Q l N ((d,v)::m) E)(b:(match o with | .defer _=>false | _=>true)=true:=by rfl)(hd:Jx N (some d)=true:=by rfl):JSI P ops Q (⟨some d,o,ty,pos,aft,none⟩::l) N m E:=by
 intro a w ha g;refine wpListIn_plain rfl λK i=>?_;refine⟨λf _=>trivial,?_⟩;rw[eE aK a.eval _ (λc e=>by have j:o = .defer c:=e;subst j;cases b),h a w (some d) pos aft none ha g];exact i _ _ (k _ w (ha.put hd v) g)
theorem qU{b:Nat}(h:JSI P l.toArray Q l N m E):J P (.region b l.toArray false) Q N m E:=λa w ha c=>wpIn_wide.1 (wpIn_region_lit (h a w ha c))
end
structure VL where
 b:Nat
 c:Nat
 l:List Vy
instance :Inhabited VL:=⟨⟨0,0,[]⟩⟩
def VL.q(e:VL):List (Rat×Rat):=e.l.map (·.2)
structure VL.In(bs:List (Nat×Obj))(n:Nat)(e:VL):Prop where
 hm:∃rest,(e.b,eF (X6 e.l++rest).toArray 89 (0,0))∈bs
 hl:e.l.length=n
 hc:n<=e.c
def QG6(l:List Tm)(all:List (List (Rat×Rat)))(n:Nat):Prop:=∀t∈l,(t.2.length=all.length/\∀k∈t.2,0<=k/\k<=1000)/\∀v,v<t.2.length->∀i,i<(Qg t.2 v).toNat->QAX (GS (Ki t.1 t.2 all n v) (el all v) i) (el all v)
theorem Nc(c:Rat)(ks:List Int)(all:List (List (Rat×Rat)))(n i:Nat):Ki c ks all n (i+1)=GS (Ki c ks all n i) (el all i) (Qg ks i).toNat:=by
 unfold Ki;rw[aC,au];rfl
theorem Nb(y b:List (Rat×Rat))(n:Nat):GS y b (n+1)=Yi (GS y b n) b:=by
 unfold GS;rw[aC,au];rfl
structure TsI{ι:Type}(pos:ι->Nat)(n:Nat) where
 i:Nat
 s:ι
 le:i<=n
 hp:pos s=i
structure TsJ(n:Nat) where
 i:Nat
 y:Sr×List Vy
 le:i<=n
theorem jr{B:ι->List (Nat×Obj)}{H:ι->Gs->Prop}{pos:ι->Nat}{p:Px}{b1 b2 b3 b4 L n bv cv:Nat}{e0:VL}{ls:List VL} 
  (K:∀s F,H s F->(F b1=some (#[p.1.v],120)/\F b2=some (#[.int .i64 (n:Int)],3)/\F b3=some (#[.slice (some ⟨e0.b,0,none⟩) (n+1) e0.c],94)/\F b4=some (#[.slice (some ⟨bv,0,none⟩) ls.length cv],79))/\Ws F p.1 p.2 (KP p.2)/\∀e∈e0::ls,YP F e.l) (hPn:p.2.length=p.1.n) (hpl:p.2.length<=1000000) (hn:n<=1000) (hls:ls.length<=1000)
  (hB:∀s,∀e∈e0::ls,e.In (B s) (n+1)) (hV:∀s,(bv,eF (ls.map λe=>.slice (some ⟨e.b,0,none⟩) (n+1) e.c).toArray 94 (0,0))∈B s) (ho:QG6 (KP p.2) ((e0::ls).map VL.q) n)
  (X:∀(G:Gs->Prop) (C:List (Nat×Obj)) (s:ι) (i:Nat) (y:Sr×List Vy) (W:World),i<p.2.length->pos s=i ->
   St ⟨w0,F0,B s++C,λF=>(G F/\H s F)/\ZV F y.1 y.2 (Ki (el p.2 i).t.1 (el p.2 i).t.2 ((e0::ls).map VL.q) n ((e0::ls).map VL.q).length)⟩ W->YieldAt aK 0 prog L #[.agg #[y.1.v]] W λe W'=>e = .returned (.bool true)/\∃s',pos s'=pos s+1/\St ⟨w0,F0,B s'++C,λF=>G F/\H s' F⟩ W')
  (s0:ι) (h0:pos s0=0) :
  Jy prog 168 [.func (.yield L) #[] #[],.pointer (some ⟨b1,0,none⟩),.pointer (some ⟨b2,0,none⟩),.pointer (some ⟨b3,0,none⟩),.pointer (some ⟨b4,0,none⟩)] ⟨w0,F0,B s0,H s0⟩ (λ(_:{ s:ι // pos s=p.2.length })=>.tuple #[]) (λs=>⟨w0,F0,B s.1,H s.1⟩):=by
 have hal:((e0::ls).map VL.q).length=ls.length+1:=wu;refine Jy.intro func168 rfl wm rfl rfl<|QNz<|QA (Gv (c:=#[p.1.v]) (T':=120) rfl Gi (λF hs0=>(K _ _ hs0).1.1) rfl)<|QA (Qb rfl D9)<|QMu rfl<|QMt<|QQ<|Jf (ι:=TsI pos p.2.length) [(0,_),(2,_),(3,_),(4,_),(12,_),(13,_)] (λi=>[(14,.int .i64 ((i.i:Nat):Int))]) (λi=>B i.s) (λi F=>H i.s F) (λi=>p.2.length-i.i) (⟨0,s0,aq _,h0⟩) wX wS QNG w6 λi=>?_
 have hi:=i.le;refine wA 6 I ?_;refine QP I (λhc=>?_) λhc=>?_
 ·have hlt:i.i<p.2.length:=wg<|QOW hc
  have U:=Qy hlt;have htA:(el p.2 i.i).t∈KP p.2:=aQ U;have ho:=ho _ htA;have hol:=ho.1.1;refine XD _ (λ_ _ f h=>((K _ _ h.1).2.1.2.1 _ U).2.2.1) (λhrl=>QOn 6 I<|QA (Qs (n:=p.1.n) i.i (λF h9=>(K _ _ h9.1).2.1.1) rfl rfl D9 KN O)<|QA (J0 (n:=p.1.n) (vs:=[.int .i64 (el p.2 i.i).x.n.s,.slice (el p.2 i.i).x.n.q (el p.2 i.i).x.n.n (el p.2 i.i).x.n.cap,.int .i64 (el p.2 i.i).x.d.s,.slice (el p.2 i.i).x.d.q (el p.2 i.i).x.d.n (el p.2 i.i).x.d.cap,.slice (el p.2 i.i).r.q (el p.2 i.i).r.n (el p.2 i.i).r.cap]) ((i.i)*5) (λF h9=>(K _ _ h9.1).2.1.1) O rfl KN I λj v hv=>JX (f:=GU) (l:=p.2) jL O hv)<|Qe D2 λb7=>QV (vs:=[_,_,_,_,_]) I I I KN I .here .h5 wW<|QMt<|QNz<|QA (QH I P1 Qm)<|QA (wJ I Qm .here)<|QA (Gv (c:=#[.int .i64 (n:Int)]) (T':=3) rfl Qo (λF h9=>(K _ _ h9.1).1.2.1) rfl)<|QL I (λ_ _ f k=>Ph (x:=(el p.2 i.i).x) (a:=(el p.2 i.i).t.1) (n:=n) f ((K _ _ k.1).2.1.2.1 _ U).1 hn) λc21=>Qe BP λb8=>QV (vs:=[_]) I I I Xg I .here .h1 wS<|QOm 5 I<|QA (QH I P0 Qx)<|QA (Qa I Qx .u1 (.skip (.skip (.skip (.skip .h1)))))<|QA (Qb I Qd)<|QOm 4 I<|Jf (ι:=TsJ (el p.2 i.i).t.2.length) [(0,_),(2,_),(3,_),(4,_),(8,_),(12,_),(13,_),(14,_),(23,_),(24,_)] (λg=>[(25,.int .i64 ((g.i:Nat):Int))]) (λg=>(b8,.cells [.slice g.y.1.q g.y.1.n g.y.1.cap].toArray 94 (0,0))::(b7,.cells (GU (el p.2 i.i)).toArray 186 (0,0))::B i.s) (λg F=>ZV F g.y.1 g.y.2 (Ki (el p.2 i.i).t.1 (el p.2 i.i).t.2 ((e0::ls).map VL.q) n g.i)) (λg=>(el p.2 i.i).t.2.length-g.i) (⟨0,c21,aq _⟩) wb wS QNG w8 λg=>?_);have hj:=g.le;refine wA 6 I ?_;refine QP I (λhc=>?_) λhc=>?_
  ·have z:g.i<(el p.2 i.i).t.2.length:=wg<|QOW hc
   have hk12:0<=Qg (el p.2 i.i).t.2 g.i/\Qg (el p.2 i.i).t.2 g.i<=1000:=by rw[K7 z];exact ho.1.2 _ (Qy z)
   refine QOn 7 I<|QA (Qs (n:=(el p.2 i.i).r.n) (g.i) (λF h9=>(((K _ _ h9.1.1.1).2.1.2.1 _ U).2).1) rfl rfl Qd Qo O)<|QA (Qu (n:=(el p.2 i.i).r.n) ((g.i)*1) (λF h9=>(((K _ _ h9.1.1.1).2.1.2.1 _ U).2).1) O rfl Qo (JN (o:=(el p.2 i.i).t.2) O))<|QOm 6 I<|QA (xk (c:=#[.slice (some ⟨e0.b,0,none⟩) (n+1) e0.c]) (T':=94) (vs:=[_]) I Xg (λF h9=>(K _ _ h9.1.1.1).1.2.2.1) rfl λj v hv=>by rw[aH];simpa using hv)<|Qe BP λb11=>QV (vs:=[_]) I I I Xg I .here .h1 ⟨rfl,trivial⟩<|QE<|QD ?_
   refine P4 (ι:=VL) [(0,_),(2,_),(3,_),(4,_),(8,_),(10,_),(11,_),(12,_),(13,_),(14,_),(23,_),(24,_),(25,_)] (λE=>[]) (λE=>(b11,.cells [.slice (some ⟨E.b,0,none⟩) (n+1) E.c].toArray 94 (0,0))::(b8,.cells [.slice g.y.1.q g.y.1.n g.y.1.cap].toArray 94 (0,0))::(b7,.cells (GU (el p.2 i.i)).toArray 186 (0,0))::B i.s) (λE F=>E=el (e0::ls) g.i) ⟨rfl,rfl,rfl,rfl,rfl,rfl,rfl,rfl,rfl,rfl,rfl,rfl,rfl,trivial⟩ ?_ ?_
   ·refine wA 6 I ?_;refine QP I (λhc=>?_) λhc=>?_
    ·have hv0:0<g.i:=wg<|QOW hc
     refine JO (.cons _ (.cons_cons _ (.cons_cons _ QNG))) mixed wi<|QK (Gv (c:=#[.slice (some ⟨bv,0,none⟩) ls.length cv]) (T':=79) rfl QEu (λF h9=>(K _ _ h9.1.1.1).1.2.2.2) rfl)<|QK (QC I)<|QK (Jv I I O)<|QK (Ql (i:=g.i-1) rfl wM Ep Xg O)<|QK (QH I ZO XG) ?_
     obtain⟨fv,hfv⟩:=L7 (hV i.s);refine QK (YI (v:=.slice (some ⟨(el ls (g.i-1)).b,0,none⟩) (n+1) (el ls (g.i-1)).c) rfl XG (.there (.there hfv)) (by rw[show 0+(g.i-1)*1+0=(g.i-1)*1 by omega];exact X0 (f:=λe:VL=>Value.slice (some ⟨e.b,0,none⟩) (n+1) e.c) (show g.i-1<ls.length by omega)))<|QK (Gv (c:=#[.int .i64 (n:Int)]) (T':=3) rfl Qo (λF h9=>(K _ _ h9.1.1.1).1.2.1) rfl)<|QK (Qk I I O)<|QK (MQ (n+1) rfl rfl wM Xy JY (hB i.s _ (ar _ (Qy (show g.i-1<ls.length by omega)))).hc)<|QK (XM I cF BP (.cons (vs:=[_]) I I I .h1 .nil))<|Jg (vs:=[_]) I I I Xg I .here (.cons_cons _ (.cons_cons _ QNG)) w6 .h1 wS<|Qw ?_
     exact Xw (el ls (g.i-1)) ⟨rfl,rfl,rfl,rfl,rfl,rfl,rfl,rfl,rfl,rfl,rfl,rfl,rfl,trivial⟩ QNG λF h9=>⟨⟨⟨⟨h9.1.1.1,h9.1.1.2⟩,h9.1.2⟩,h9.2⟩,(by rw[show g.i=(g.i-1)+1 by omega];rfl)⟩
    have hv0:¬0<g.i:=wg<|QOX hc
    refine QN ?_;exact Xw (e0) ⟨rfl,rfl,rfl,rfl,rfl,rfl,rfl,rfl,rfl,rfl,rfl,rfl,rfl,trivial⟩ QNG λF h9=>⟨⟨⟨⟨h9.1.1.1,h9.1.1.2⟩,h9.1.2⟩,h9.2⟩,(by rw[show g.i=0 by omega];rfl)⟩
   intro E;refine XD _ (λ_ _ f h=>h.2) (λhxe=>?_);have hxm:E∈e0::ls:=by rw[hxe];exact Qy wv
   have hxi:=hB i.s _ hxm;have hxq:E.l.map (·.2)=el ((e0::ls).map VL.q) g.i:=by rw[hxe,JB (show g.i<(e0::ls).length by simp;omega),JB (show g.i<((e0::ls).map VL.q).length by omega),aA];rfl
   refine wA 7 I<|Jf (ι:=TsJ (Qg (el p.2 i.i).t.2 g.i).toNat) [(0,_),(2,_),(3,_),(4,_),(8,_),(11,_),(12,_),(13,_),(14,_),(23,_),(24,_),(25,_),(43,_)] (λm=>[(44,.int .i64 ((m.i:Nat):Int))]) (λm=>(b11,.cells [.slice (some ⟨E.b,0,none⟩) (n+1) E.c].toArray 94 (0,0))::(b8,.cells [.slice m.y.1.q m.y.1.n m.y.1.cap].toArray 94 (0,0))::(b7,.cells (GU (el p.2 i.i)).toArray 186 (0,0))::B i.s) (λm F=>ZV F m.y.1 m.y.2 (GS (Ki (el p.2 i.i).t.1 (el p.2 i.i).t.2 ((e0::ls).map VL.q) n g.i) (el ((e0::ls).map VL.q) g.i) m.i)) (λm=>(Qg (el p.2 i.i).t.2 g.i).toNat-m.i) (⟨0,g.y,aq _⟩) ⟨rfl,rfl,rfl,rfl,rfl,rfl,rfl,rfl,rfl,rfl,rfl,rfl,rfl,trivial⟩ wS QNG (λ_ h=>h.1.2) λm=>?_
   have hk3:=m.le;refine XD _ (λ_ _ f h=>fp h.2.len h.2.P9) (λh3p=>?_);obtain⟨hyl,hyv⟩:=h3p;have hyn:m.y.1.n=n+1:=by rw[<-hyv,Kv,X1]
   refine wA 6 I ?_;refine QP I (λhc=>?_) λhc=>?_
   ·have Y:m.i<(Qg (el p.2 i.i).t.2 g.i).toNat:=wg<|QOW hc
    refine QOn 5 I<|QA (QR (vs:=[_]) I Xg .u1 .h1 rfl)<|QA (QR (vs:=[_]) I Xg .here .h1 rfl)<|Xv I (fb _) (vg (ra:=m.y.1) (la:=m.y.2) (va:=GS (Ki (el p.2 i.i).t.1 (el p.2 i.i).t.2 ((e0::ls).map VL.q) n g.i) (el ((e0::ls).map VL.q) g.i) m.i) (vb:=el ((e0::ls).map VL.q) g.i) (bb:=E.b) (nb:=n+1) (cb:=E.c) (lb:=E.l) w8 ⟨hxi.hm.choose,ar _ (ar _ (ar _ hxi.hm.choose_spec)),hxi.hl⟩ hxq (λF h9=>(K _ _ h9.1.1.1.1.1).2.2 _ hxm) hyl hyv O O (ho.2 _ z _ Y)) λc48=>QV (vs:=[_]) I I I Xg I .u1 .h1 wS<|QE<|Qf<|QD<|QB<|QA (Qk I I O)<|wB 2 I ?_
    exact Qh (⟨m.i+1,c48,Y⟩) (by show(Qg (el p.2 i.i).t.2 g.i).toNat-(m.i+1)<(Qg (el p.2 i.i).t.2 g.i).toNat-m.i;omega) ⟨rfl,rfl,rfl,rfl,rfl,rfl,rfl,rfl,rfl,rfl,rfl,rfl,rfl,rfl,trivial⟩ QNG λF ⟨⟨⟨⟨⟨⟨hs0,hs1⟩,h21⟩,hY⟩,hxe_⟩,hZ⟩,h48⟩=>⟨⟨⟨⟨⟨hs0,hs1⟩,h21⟩,hY⟩,hxe_⟩,by show ZV F c48.1 c48.2 (GS _ _ (m.i+1));rw[Nb];exact h48⟩
   have hge3:m.i=(Qg (el p.2 i.i).t.2 g.i).toNat:=wg<|QOX hc
   refine Q7 ?_;refine QB<|QA (Qk I I O)<|wB 2 I ?_
   exact Qh (⟨g.i+1,m.y,z⟩) (by show(el p.2 i.i).t.2.length-(g.i+1)<(el p.2 i.i).t.2.length-g.i;omega) wc (.cons _ QNG) λF h9=>⟨⟨⟨h9.1.1.1.1.1,h9.1.1.1.1.2⟩,h9.1.1.1.2⟩,by show ZV F m.y.1 m.y.2 (Ki _ _ _ _ (g.i+1));have e:=h9.2;rw[hge3]at e;rw[Nc];exact e⟩
  have hge2:g.i=(el p.2 i.i).t.2.length:=wg<|QOX hc
  refine Q7 ?_;refine QG<|qU<|QAd (QC I)<|QAd (QR (vs:=[_]) I Xg .here .h1 rfl) ?_
  refine qY (E':=λs':{ s:ι // pos s=pos i.s+1 }=>⟨w0,F0,(b8,.cells [.slice g.y.1.q g.y.1.n g.y.1.cap].toArray 94 (0,0))::(b7,.cells (GU (el p.2 i.i)).toArray 186 (0,0))::B s'.1,λF=>H s0 F/\H s'.1 F⟩) I I (λW hW=>?_) λs53=>?_
  ·obtain⟨fn,tmps,assign,body,e1,e2⟩:=X (λF=>H s0 F) [(b8,.cells [.slice g.y.1.q g.y.1.n g.y.1.cap].toArray 94 (0,0)),(b7,.cells (GU (el p.2 i.i)).toArray 186 (0,0))] i.s i.i g.y W hlt i.hp ((hW.perm (ax (l₁:=[_,_]))).GW λF h=>⟨h.1.1,by have e:=h.2;have e1:g.i=((e0::ls).map VL.q).length:=hge2.trans hol;rw[e1]at e;exact e⟩);exact⟨fn,tmps,assign,body,e1,e2.mono λe w' ⟨h2,s',h3,h4⟩=>⟨h2,⟨s',h3⟩,h4.perm (ax (l₂:=[_,_]))⟩⟩
  refine QCZ (λ⟨a,w,h⟩=>by obtain⟨c,e,_⟩:=h;cases e) rfl<|QA (Jw rfl)<|QE<|QD ?_
  refine QP I (λhc=>?_) λhc=>?_
  ·exact absurd hc wj
  refine QN<|Qf<|QD<|QB<|QA (Qk I I O)<|wB 2 I ?_
  exact Qh (⟨i.i+1,s53.1,hlt,by rw[s53.2,i.hp]⟩) (by show p.2.length-(i.i+1)<p.2.length-i.i;omega) wY (.cons _ (.cons _ QNG)) w6
 have hge:i.i=p.2.length:=wg<|QOX hc
 refine Kc ?_
 repeat first|refine XI ?_|refine XA wm ?_
 refine XJ<|Ef ?_
 exact Zr ((⟨i.s,by rw[i.hp,hge]⟩:{ s:ι // pos s=p.2.length })) I .nil (rfl) λw h=>h.imp QNG w8
theorem vi{p:Px}{n:Nat}{v1 v2:Value}(g:Fits F w)(h1:v1.oneCell'=true/\v1.cells=[v1].toArray)(h2:v2.oneCell'=true/\v2.cells=[v2].toArray):
  QU prog 97 [p.1.v,.int .i64 (n:Int),.agg #[v1],v2] w F (λ(c:Nat×Nat×Nat×Nat)=>.func (.func 168) #[] #[.pointer (some ⟨c.1,0,none⟩),.pointer (some ⟨c.2.1,0,none⟩),.pointer (some ⟨c.2.2.1,0,none⟩),.pointer (some ⟨c.2.2.2,0,none⟩)]) (λc F=>F c.1=some (#[p.1.v],120)/\F c.2.1=some (#[.int .i64 (n:Int)],3)/\F c.2.2.1=some (#[v1],94)/\F c.2.2.2=some (#[v2],79)):=by
 refine QU.go (G:=λF=>True) func97 g trivial ?_;refine QNz<|Qv I (vs:=[_]) I λb4=>Qv I (vs:=[_]) I λf=>Qv I (vs:=[_]) I λd=>Qv (vs:=[v2]) I h2.2 λa=>QOm 5 I<|Kg (b:=b4) .u3<|Kg (b:=f) .u2<|Kg (b:=d) .u1<|Kg (b:=a) .here<|QA (PA I)<|wQ I<|QW ?_
 exact QO ((b4,f,d,a)) I (wN I) (rfl) λF h9=>⟨h9.1.1.1.2,h9.1.1.2,h9.1.2,h9.2⟩
section
variable[Dr]{P:Program}{Q:Exit->Act->World->Prop}{N:Nat}{m:Sl}{w0:World}{F0:Gs}{bs:List (Nat×Obj)}{G:Gs->Prop}
@[reducible] def Y3 (Ds:List Nat):Df:=⟨Ds.map λD=>{ target:=.collected D,args:=#[] }⟩
def dfB(Ds:List Nat):List (Nat×Obj):=Ds.map λD=>(D,.deferred (some []))
def kb{ι:Type}(b:ι->Df)(N:Nat)(w0:World)(F0:Gs)(M:ι->Sl)(B:ι->List (Nat×Obj))(H:ι->Gs->Prop)(μ:ι->Nat)(i:ι)(a:Act)(w:World):Prop :=
 ∃j,μ j<μ i/\JH (df:=b j) N (M j) a/\St ⟨w0,F0,B j,H j⟩ w
theorem FO(b:ι->Df){c:Code}(K:Sl)(M:ι->Sl)(B:ι->List (Nat×Obj))(R:ι->Gs->Prop)(μ:ι->Nat)(d:ι)(hd:d0=b d)
  (hk:Yb m K) (hm:Yb m (M d)) (hb:(B d).Sublist bs) (hg:∀F,G F->R d F)
  (round:∀i,J (df:=b i) P c (Exit.then (kb b N w0 F0 (λi=>K++M i) B (λi F=>G F/\R i F) μ i) Q) N (K++M i) ⟨w0,F0,B i,λF=>G F/\R i F⟩):J (df:=d0) P (.loop c) Q N m ⟨w0,F0,bs,G⟩:=by
 subst hd;intro a w ha f;refine wp_loop_ghost (λn a w=>∃i,μ i=n/\JH (df:=b i) N (K++M i) a/\St ⟨w0,F0,B i,λF=>G F/\R i F⟩ w) (μ d) ⟨d,rfl,JH.sub (df:=b d) ha (hk.append hm),f.imp hb λF h=>⟨h,hg F h⟩⟩ ?_;rintro n a w ⟨i,rfl,ha,f⟩;refine wp_mono (round i a w ha f) ?_;intro e g w' h;cases e with
 |normal=>obtain⟨j,h1,h2,h3⟩:=h;exact⟨μ j,h1,j,rfl,h2,h3⟩
 |_=>exact h
theorem FW{b:ι->Df}{M:ι->Sl}{B:ι->List (Nat×Obj)}{H:ι->Gs->Prop}{μ:ι->Nat}{i:ι}(j:ι)(hd:d0=b j)(c:μ j<μ i)
  (hm:Yb m (M j)) (hb:(B j).Sublist bs) (hg:∀F,G F->H j F):Fin (df:=d0) (Exit.then (kb b N w0 F0 M B H μ i) Q) .normal N m ⟨w0,F0,bs,G⟩:=by
 subst hd;exact λa w ha d=>⟨j,c,JH.sub (df:=b j) ha hm,d.imp hb hg⟩
theorem Tz{Ds:List Nat}{g:Operand}{ps:Array Tmp}{gf:Nat}{lb:Array Value}(B:ι->List (Nat×Obj))(R:ι->Gs->Prop)(Dn:ι->Prop)(hd:d0=Y3 Ds)(hg:ev m g=some (.func (.func gf) #[] lb))(he:Enters P gf)
  (hcall:∀(L D:Nat) (r:Loop) (w:World),kQ N m ps assign body r->St ⟨w0,F0,(L,.loop r)::(D,.deferred (some []))::bs,G⟩ w ->
   Calls P gf (#[.func (.yield L) #[] #[]]++lb) w λe w'=>(∃v,e = .returned v)/\∃s,Dn s/\St ⟨w0,F0,(L,.loop r)::(D,.deferred (some []))::B s,λF=>G F/\R s F⟩ w')
  (k:∀D s,Dn s->Fin (df:=Y3 (D::Ds)) Q .normal N m ⟨w0,F0,(D,.deferred (some []))::B s,λF=>G F/\R s F⟩):J (df:=d0) P (.rangeFunc g ps assign body) Q N m ⟨w0,F0,bs,G⟩:=by
 subst hd;intro a w ha hw;refine(wpIn_wide (n:=0)).1 (wpIn_rangeFunc λfn _=>?_);obtain⟨r,hr⟩:∃r:Loop,r={ state:=.ready,pending:=none,fn,tmps:=a.tmps,params:=ps,assign,body,defers:=w.heap.size }:=⟨_,rfl⟩;have hs1:St ⟨w0,F0,(w.heap.size+1,.loop r)::(w.heap.size,.deferred (some []))::bs,G⟩ ((w.alloc (.deferred (some []))).alloc (.loop r)):=by
  have h1:=hw.alloc (.deferred (some [])) (λc fr e=>by cases e);have h2:=h1.alloc (.loop r) λc fr e=>by cases e
  rwa [World.size_alloc]at h2
 have hd:a.defers=Ds.map λD=>{ target:=.collected D,args:=#[] }:=JH.df (df:=Y3 Ds) ha;have hsz:a.tmps.size=N:=JH.size (df:=Y3 Ds) (a:=a) ha;have hgt:∀t v,look m t=some v->a.tmps[t]?=some v:=λt v h=>JH.get (df:=Y3 Ds) (a:=a) ha t v h;refine⟨w.heap.size+1,[{ target:=.collected w.heap.size,args:=#[] }],(w.alloc (.deferred (some []))).alloc (.loop r),{ target:=.fn (.func gf) lb,args:=#[.func (.yield (w.heap.size+1)) #[] #[]] },(w.alloc (.deferred (some []))).alloc (.loop r),gf,
  #[.func (.yield (w.heap.size+1)) #[] #[]]++lb,(w.alloc (.deferred (some []))).alloc (.loop r),?_,?_,λ_ _=>trivial,?_,λe=>(by cases e),?_⟩
 ·rw[hr];exact run_enterLoop_outer _ _ _ _ _
 ·simp only[resolve,JH.ev (df:=Y3 Ds) ha hg];simp[go_sem]
 ·simpa[invoke,go_sem]using he _ _
 refine(callsIn_wide.2 (hcall _ _ r _ ⟨by rw[hr],by rw[hr],by rw[hr],by rw[hr],by rw[hr],⟨by rw[hr];exact hsz,rfl,by rw[hr];exact hgt⟩⟩ hs1)).mono ?_;rintro e w' ⟨⟨v,rfl⟩,s,hdn,hs⟩;have hl:w'.heap[w.heap.size+1]?=some (.loop r):=hs.own .here;refine⟨none,w'.putObj (w.heap.size+1) (.loop { r with state:=.exhausted }),?_,k w.heap.size s hdn _ _ (JH.mk (df:=Y3 (w.heap.size::Ds)) (JH.size (df:=Y3 Ds) (a:=a) ha) ?_ λt v h=>JH.get (df:=Y3 Ds) (a:=a) ha t v h) ?_⟩
 ·rw[run_endLoop hl (by rw[hr];intro e;cases e)];rw[hr]
 ·show _++a.defers=_;rw[hd];rfl
 exact(hs.put (.loop { r with state:=.exhausted }) .here λc fr e=>by cases e).imp (.cons _ QNG) λ_ h=>h
theorem QCW{c:Code}(h:∀G':Gs->Prop,(∀F,G' F->G F)->J (df:=d0) P c Q N m ⟨w0,F0,bs,G'⟩):J (df:=d0) P c Q N m ⟨w0,F0,bs,G⟩:=h G λ_ h=>h
theorem uM{fn:Func}(Ds:List Nat){f:Df}(hd:f=Y3 Ds)(h:Fin (df:=Hi) (bodyPost P fn R) .ret N m ⟨w0,F0,bs,G⟩):Fin (df:=f) (bodyPostM aK 0 P fn R) .ret N m ⟨w0,F0,dfB Ds++bs,G⟩:=by
 subst hd;intro a w ha b;have d:a.defers=Ds.map λD=>{ target:=.collected D,args:=#[] }:=JH.df (df:=Y3 Ds) ha;show LeavesInM aK 0 P fn a.tmps R a.defers .returning w;rw[d];have:∀(Ds:List Nat) (w:World),St ⟨w0,F0,dfB Ds++bs,G⟩ w->LeavesInM aK 0 P fn a.tmps R (Ds.map λD=>{ target:=.collected D,args:=#[] }) .returning w:=by
  intro Ds
  induction Ds with
  |nil =>
   intro w b;have h1:=h { tmps:=a.tmps,defers:=[] } w (JH.mk (df:=Hi) (JH.size (df:=Y3 _) (a:=a) ha) rfl λt v h=>JH.get (df:=Y3 _) (a:=a) ha t v h) b;obtain⟨_,v,h2,h3⟩:=h1;exact⟨v,h2,h3⟩
  |cons D Ds ih =>
   intro w b;refine⟨λe=>(by cases e),.inl ⟨D,_,rfl,run_takeDeferred (b.own .here),ih _ ?_⟩⟩;exact(b.put (.deferred none) .here λc fr e=>by cases e).imp (.cons _ QNG) λ_ h=>h
 exact this Ds w b
end
structure VB where
 b:Nat
 c:Nat
 l:List Vy
 rest:List Value
instance :Inhabited VB:=⟨⟨0,0,[],[]⟩⟩
def VB.box(e:VB):Nat×Obj:=(e.b,.cells (X6 e.l++e.rest).toArray 89 (0,0))
def VB.vl(e:VB):VL:=⟨e.b,e.c,e.l⟩
@[reducible] def VB.sl (k:Nat) (e:VB):Value:=.slice (some ⟨e.b,0,none⟩) k e.c
structure VB.Ok(k:Nat)(e:VB):Prop where
 hl:e.l.length=k
 hr:(X6 e.l).length+e.rest.length=e.c*8
 hc:k<=e.c
 hm:e.c<=maxLen
theorem VB.Ok.own{e:VB}(h:e.Ok k):Q2 89 8 (e.sl k) k (X6 e.l) [e.box]:=.some (by rw[Gj,h.hl]) h.hr h.hc h.hm
theorem zG{v:Value}{l:List Vy}{ob:List (Nat×Obj)}(h:Q2 89 8 v k (X6 l) ob)(hk:0<k):∃e:VB,e.l=l/\e.Ok k/\v=e.sl k/\ob=[e.box]:=by
 generalize hcs:X6 l=cs at h;cases h with
 |nil=>exact absurd hk (fC 0)
 |some h1 h2 h3 h4 =>
  rename_i b cap rest;subst hcs;refine⟨⟨b,cap,l,rest⟩,rfl,⟨?_,h2,h3,h4⟩,rfl,rfl⟩;rw[Gj]at h1;show l.length=k;omega
theorem xu{vs:List Value}{z v:Value}(h:vs.length=i)(hi:i<n):Yz (vs++Jz [z] (n-i)) (0+i*1+0) [v] ((vs++[v])++Jz [z] (n-(i+1))):=by
 rw[show n-i=(n-(i+1))+1 by omega,Jz,ao,show 0+i*1+0=vs.length by omega];exact BO I
theorem QBH{l:List Vy}{z:List Value}(c:Sp)(x:Rat×Rat)(hz:z.length=8)(h:l.length=i)(hi:i<n):Yz (X6 l++Jz z (n-i)) (0+i*8) (Zw c) (X6 (l++[(c,x)])++Jz z (n-(i+1))):=by
 rw[show n-i=(n-(i+1))+1 by omega,Jz,D8,ao,show 0+i*8=(X6 l).length by rw[Gj];omega];exact BO hz
theorem Rj(e:Vy)(l:List Vy):X6 (e::l)=Zw e.1++X6 l:=rfl
theorem Ub(l m:List Vy):X6 (l++m)=X6 l++X6 m:=by unfold X6;rw[bN]
theorem xw{l:List Vy}(h:i<l.length)(c:Sp)(x:Rat×Rat):Yz (X6 l++rest) (0+i*8) (Zw c) (X6 (l.set i (c,x))++rest):=by
 have b:l=l.take i++l[i]::l.drop (i+1):=by rw[List.getElem_cons_drop];simp
 have a:l.set i (c,x)=l.take i++(c,x)::l.drop (i+1):=by rw[List.set_eq_take_append_cons_drop,if_pos h]
 rw[a]
 conv=>arg 1;rw[b]
 rw[Ub,Ub,Rj,Rj,ao,ao,ao,ao,show 0+i*8=(X6 (l.take i)).length by rw[Gj,bU];omega];exact BO I
theorem QBG{a b:List Value}{u v:Value}(h:a.length=i):Yz (a++u::b) (0+i*1+0) [v] ((a++[v])++b):=by
 rw[ao,show 0+i*1+0=a.length by omega];exact BO (z:=[u]) I
theorem ED(X M Y:List α)(a:α):(a::(X++(M++Y))).Perm (X++(M++a::Y)):=by
 rw[<-ao,<-ao];exact List.perm_middle.symm
theorem YP.set{l:List Vy}{c:Sp}{x:Rat×Rat}(h:YP F l)(k:X9 F c x):YP F (l.set i (c,x)):=λe he=>by
 rcases List.mem_or_eq_of_mem_set he with he | rfl
 ·exact h e he
 exact k
theorem y9(t:Rat×Rat):(WT 0 0).set 0 t=ZA t 0:=rfl
theorem pg(t:Rat×Rat){k:Nat}(h:0<k):((WT 0 k).set 0 t).set 1 (((1:Int):Rat),((1:Int):Rat))=ZA t k:=by
 obtain⟨n,rfl⟩:∃n,k=n+1:=⟨k-1,O⟩;rfl
structure uF(rs:List (List Tm))(t:Rat×Rat)(vb:List (Rat×Rat))(n:Nat):Prop where
 tm:∀k,k<n->∀i,i<rs.length->QG6 (el rs i) (ZA t k::Jk rs t vb k) k
 mn:∀k,k<n->∀i,i<rs.length->∀u∈el rs i,∀x∈Ki u.1 u.2 (ZA t k::Jk rs t vb k) k (vb.length+1),GP x 100000000
 sm:∀k,k<n->∀i,i<rs.length->∀j,∀x∈Z6 ((el rs i).take j) (ZA t k::Jk rs t vb k) k,GP x 100000000
 cf:∀k,k<n->∀i,i<rs.length->GP (el (Z6 (el rs i) (ZA t k::Jk rs t vb k) k) k) 20000000
theorem BX{p:List Tm}{all:List (List (Rat×Rat))}(h:i<p.length):Z6 (p.take (i+1)) all n=VY (Z6 (p.take i) all n) (Ki (el p i).1 (el p i).2 all n all.length):=by
 unfold Z6;rw[Zb h,au];rfl
structure TaJ(vb:List (Rat×Rat)) where
 i:Nat
 es:List VB
 M:List (Nat×Obj)
 hM:M=es.map VB.box
 le:i<=vb.length
 len:es.length=i
 ok:∀e∈es,e.Ok 1
 hq:es.map (λe=>e.l.map (·.2))=(vb.take i).map λx=>[x]
structure TkJ(rs:List (List Tm))(t:Rat×Rat)(vb:List (Rat×Rat))(n:Nat) where
 k:Nat
 es:List VB
 M:List (Nat×Obj)
 Ds:List Nat
 hM:M=es.map VB.box
 le:k<=n
 len:es.length=vb.length
 ok:∀e∈es,e.Ok (k+1)
 hq:es.map (λe=>e.l.map (·.2))=Jk rs t vb k
def nxQ(rs:List (List Tm))(t:Rat×Rat)(vb:List (Rat×Rat))(k i:Nat):Rat×Rat:=XP (el (Z6 (el rs i) (ZA t k::Jk rs t vb k) k) k) ((((k+1:Nat):Int):Rat)⁻¹,(((k+1:Nat):Int):Rat)⁻¹)
structure TrJ(f:Nat->Rat×Rat)(n:Nat) where
 i:Nat
 nx:List Vy
 Ds:List Nat
 le:i<=n
 len:nx.length=i
 hv:nx.map (·.2)=(ai i).map f
structure TsS(n:Nat) where
 i:Nat
 y:Sr×List Vy
 le:i<=n
structure TeJ(es:List VB)(k:Nat)(f:Nat->Rat×Rat) where
 i:Nat
 e1:List VB
 M1:List (Nat×Obj)
 M2:List (Nat×Obj)
 hM1:M1=e1.map VB.box
 hM2:M2=(es.drop i).map VB.box
 le:i<=es.length
 len:e1.length=i
 ok:∀e∈e1,e.Ok (k+2)
 hq:e1.map (λe=>e.l.map (·.2))=(ai i).map λj=>(el es j).l.map (·.2)++[f j]
theorem St.cj:∀(es:List VB) {G:Gs->Prop},St ⟨w0,F0,bs++es.map VB.box,G⟩ w->St ⟨w0,F0,bs,λF=>G F/\∀e∈es,F e.b=some ((X6 e.l++e.rest).toArray,89)⟩ w
 |[],G,h=>by
  have:=h.GW (G':=λF=>G F/\∀e∈([]:List VB),F e.b=some ((X6 e.l++e.rest).toArray,89)) λF a=>⟨a,λ_ h=>by cases h⟩;simpa using this
 |e::es,G,h=>by
  rw[aw]at h;have h1:=St.freeze (pre:=bs) (post:=es.map VB.box) (b:=e.b) h;exact(St.cj es h1).GW λF a=>⟨a.1.1,λc he=>by
   rcases List.mem_cons.1 he with rfl | he
   ·exact a.1.2
   exact a.2 c he⟩
theorem dw{q:Option Addr}{f:Nat}{l:List (Fr×Rat)}{p:(Fr×Rat)->Bool}(y:Fits F w)(hg:∀F F',Gs.le F F'->G0 F->G0 F')(h0:G0 F)(x:Qz F q n 4 (l.flatMap λe=>GN e.1))(z:l.length=n)(hb:n<=1000000)(hc:∀e∈l,∀w F,Fits F w->G0 F->QX prog f (c1++[e.1.v]++c2) w F (.bool (p e))):QU prog 162 [.slice q n c,.func (.func f) c1.toArray c2.toArray] w F (λ(k:Int)=>.int .i64 k) (λk _=>decide (k>=0)=l.any p):=by
 refine QU.intro (G:=λF=>G0 F/\Qz F q n 4 (l.flatMap λe=>GN e.1)) func162 rfl wm rfl rfl y (λF' m=>⟨hg F F' m h0,x.le m⟩)<|QNz<|wQ rfl<|QG<|wR rfl<|QA (Qb rfl Zg)<|QMu rfl<|QMt<|QQ<|J2 (ι:=Dp l p) [(0,_),(1,_),(7,_)] (λi=>[(8,.int .i64 ((i.i:Nat):Int))]) (λi=>l.length-i.i) (Dp.start _ _) wU wS λi=>?_
 have hi:=i.le;refine wA 6 I ?_;refine QP I (λa=>?_) λa=>?_
 ·have g:i.i<l.length:=wg<|QOW a
  have h:=Qy g;refine QOn 15 I<|QA (Qs (n:=n) i.i w8 rfl rfl Zg Qm O)<|QA (J0 (n:=n) (vs:=[.int .i64 (el l i.i).1.n.s,.slice (el l i.i).1.n.q (el l i.i).1.n.n (el l i.i).1.n.cap,.int .i64 (el l i.i).1.d.s,.slice (el l i.i).1.d.q (el l i.i).1.d.n (el l i.i).1.d.cap]) ((i.i)*4) w8 O rfl Qm I λj v hv=>JX (f:=(λe=>GN e.1)) (l:=l) (λ_=>rfl) O hv)<|GQ (c1:=c1) (c2:=c2) rfl rfl (λw F f k=>hc _ h w F f k.1) λ_=>QE<|QD ?_
  refine QP I (λa=>?_) λa=>?_
  ·have b:=a;refine wA 6 I<|X4 ?_
   exact QO (((i.i:Nat):Int)) I (wN I) (rfl) λF _=>by rw[decide_eq_true O,List.any_eq_true.2 ⟨_,h,b⟩]
  have b:=a;refine QN<|Qf<|QD<|QB<|QA (Qk I I O)<|wB 2 I ?_
  exact Qh (i.next g b) (by show l.length-(i.i+1)<l.length-i.i;omega) wV QNG w7
 have o:l.length<=i.i:=wg<|QOX a
 refine Q7 ?_;refine wA 6 I ?_;exact QO ((-1:Int)) I (wN I) (rfl) λF _=>by rw[Bool.eq_false_iff.2 (i.stop o)];rfl
theorem QAL{q:Option Addr}{f:Nat}{l:List (Fr×Rat)}{p:(Fr×Rat)->Bool}(g:Fits F w)(hg:∀F F',Gs.le F F'->G0 F->G0 F')(h0:G0 F)(d:Qz F q n 4 (l.flatMap λe=>GN e.1))(b:l.length=n)(hb:n<=1000000)(hc:∀e∈l,∀w F,Fits F w->G0 F->QX prog f (c1++[e.1.v]++c2) w F (.bool (p e))):QX prog 85 [.slice q n c,.func (.func f) c1.toArray c2.toArray] w F (.bool (l.any p)):=by
 refine QU.intro (G:=λF=>G0 F/\Qz F q n 4 (l.flatMap λe=>GN e.1)) func85 rfl wm rfl rfl g (λF' a=>⟨hg F F' a h0,d.le a⟩)<|QNz<|wQ rfl<|wR rfl<|QMu rfl<|QL rfl (λ_ _ f k=>dw (p:=p) f hg k.1 k.2 b hb hc) λi=>J5 _ (λ_ _ f h=>h.2) λh7=>QA (QM rfl rfl rfl)<|wQ rfl<|QW ?_
 exact QO2 I I (congrArg ae h7.symm) wy
def Vo(c:Nat):Bool:=Xj c||(decide (48<=c)&&decide (c<=57))||c==95||c==39||c==35
def ko(s:List UInt8):Bool:=s.all (λc=>Vo c.toNat)&&decide (1<=s.length)&&decide (s.length<=32)
theorem AA(h:128<=c):Vo c=false:=by
 unfold Vo Xj;simp;omega
def nsV(o:Option (Nat×Nat))(p:Nat):Value:=match o with
 |none=>.tuple #[.bool false]
 |some (c,_)=>.tuple #[.bool true,.int .i64 p,.int .i32 c]
theorem QF4(o:Option (Nat×Nat))(p:Nat):∃vs,nsV o p = .tuple vs/\vs[0]?=some (.bool o.isSome):=by
 cases o with
 |none=>exact⟨_,rfl,rfl⟩
 |some x=>exact⟨_,rfl,rfl⟩
def nsW(o:Option (Nat×Nat)):Nat:=match o with | none=>0 | some (_,w)=>w
def nsP(s:List UInt8)(p:Nat)(o:Option (Nat×Nat)):Prop:=match o with
 |none=>s.length<=p
 |some (c,a)=>∃hi:p<s.length,(s[p].toNat<128/\c=s[p].toNat/\a=1)\/(128<=s[p].toNat/\128<=c)
section
variable{P:Program}{Q:Exit->Act->World->Prop}{N:Nat}{m:Sl}{ops:Array Oper}{l:List Oper}{w0:World}{F0:Gs}{bs:List (Nat×Obj)}{G:Gs->Prop}{d:Nat}{ty:TypeId}{pos:String}{aft:Array Edge}
theorem FR{p:Nat}{f:Obj->List (Nat×Obj)}(hx:ev m x=some (.pointer (some ⟨b,0,none⟩)))(i:Own bs b (.stringIter ⟨s.toArray⟩ p) f)
  (k:∀o,nsP s p o->JS P ops Q l N ((d,nsV o p)::m) ⟨w0,F0,f (.stringIter ⟨s.toArray⟩ (p+nsW o)),G⟩) (hd:Jx N (some d)=true:=by rfl) :
  JS P ops Q (⟨some d,.next x true,ty,pos,aft,none⟩::l) N m ⟨w0,F0,bs,G⟩:=by
 rcases aD p s.length with hi | hi
 ·obtain⟨c,j,g,a⟩:=C7 hi;exact LK hx i hi g (k (some (c,j)) ⟨hi,a⟩) hd
 have h:=k none hi;refine LM hx i hi ?_ hd;obtain⟨pre,post,y,w⟩:=i.split;rw[w]at h;rw[y];exact h
end
theorem pE(hF:Fits F w)(hl:s.length<=9223372036854775807):QX prog 88 [tx s] w F (.bool (ko s)):=by
 refine QU.go (G:=λF=>True) func88 hF trivial ?_;refine wA 9 I<|FP I J7 λb7=>QMt<|QQ<|Jf (ι:=Wq s λc=>Vo c.toNat) [(0,_),(7,_)] (λi=>[]) (λi=>[(b7,.stringIter ⟨s.toArray⟩ i.i)]) (λi F=>True) (λi=>s.length-i.i) (Wq.start _ _) wT trivial QNG wy λi=>?_
 have hle:=i.le;refine QNz<|FR (s:=s) (p:=i.i) rfl .here λo ho=>?_
 obtain⟨nv,hnv,hn0⟩:=QF4 o i.i;refine QA (v:=.bool o.isSome) (Qi (vs:=nv) (by rw[<-hnv];rfl) hn0)<|QMt<|QG ?_
 refine QP I (λhc=>?_) λhc=>?_
 ·obtain⟨⟨c,X⟩,rfl⟩:∃x,o=some x:=by
   cases o with
   |none=>cases hc
   |some x=>exact⟨x,rfl⟩
  obtain⟨hi,a⟩:=ho;refine QOn 9 I ?_;refine Xl [(0,_),(4,_),(7,_)] [(5,.bool ((Xj c||(decide (48<=c)&&decide (c<=57)))))] wU ?_ ?_
  ·refine wA 4 I ?_;refine QY (t:=13) rfl (λU=>?_) λU=>?_
   ·refine wB 6 I ?_;refine QY (t:=17) rfl (λL=>?_) λL=>?_
    ·refine wB 3 I<|JM I I<|JM I I<|wB 6 I<|JM I I<|JM I I<|wB 4 I ?_
     exact Q4 ⟨rfl,rfl,rfl,(congrArg (λb=>some (ae b)) (by rw[aa];simp_all [Xj]<;>omega)),trivial⟩ QNG w6
    refine wB 6 I ?_;refine QY (t:=20) rfl (λj=>?_) λj=>?_
    ·refine wB 8 I ?_;refine QY (t:=25) rfl (λg=>?_) λg=>?_
     ·refine wB 3 I<|JM I I<|JM I I<|wB 4 I ?_
      exact Q4 ⟨rfl,rfl,rfl,(congrArg (λb=>some (ae b)) (by rw[aa];simp_all [Xj]<;>omega)),trivial⟩ QNG w6
     refine wB 6 I ?_;refine QY (t:=28) rfl (λd=>?_) λd=>?_
     ·refine wB 9 I ?_;exact Q4 ⟨rfl,rfl,rfl,(congrArg (λb=>some (ae b)) (by rw[aa];simp_all [Xj]<;>omega)),trivial⟩ QNG w6
     refine wB 7 I ?_;exact Q4 ⟨rfl,rfl,rfl,(congrArg (λb=>some (ae b)) (by rw[aa];simp_all [Xj]<;>omega)),trivial⟩ QNG w6
    refine wB 12 I ?_;refine QY (t:=28) rfl (λd=>?_) λd=>?_
    ·refine wB 9 I ?_;exact Q4 ⟨rfl,rfl,rfl,(congrArg (λb=>some (ae b)) (by rw[aa];simp_all [Xj]<;>omega)),trivial⟩ QNG w6
    refine wB 7 I ?_;exact Q4 ⟨rfl,rfl,rfl,(congrArg (λb=>some (ae b)) (by rw[aa];simp_all [Xj]<;>omega)),trivial⟩ QNG w6
   refine wB 10 I ?_;refine QY (t:=20) rfl (λj=>?_) λj=>?_
   ·refine wB 8 I ?_;refine QY (t:=25) rfl (λg=>?_) λg=>?_
    ·refine wB 3 I<|JM I I<|JM I I<|wB 4 I ?_
     exact Q4 ⟨rfl,rfl,rfl,(congrArg (λb=>some (ae b)) (by rw[aa];simp_all [Xj]<;>omega)),trivial⟩ QNG w6
    refine wB 6 I ?_;refine QY (t:=28) rfl (λd=>?_) λd=>?_
    ·refine wB 9 I ?_;exact Q4 ⟨rfl,rfl,rfl,(congrArg (λb=>some (ae b)) (by rw[aa];simp_all [Xj]<;>omega)),trivial⟩ QNG w6
    refine wB 7 I ?_;exact Q4 ⟨rfl,rfl,rfl,(congrArg (λb=>some (ae b)) (by rw[aa];simp_all [Xj]<;>omega)),trivial⟩ QNG w6
   refine wB 12 I ?_;refine QY (t:=28) rfl (λd=>?_) λd=>?_
   ·refine wB 9 I ?_;exact Q4 ⟨rfl,rfl,rfl,(congrArg (λb=>some (ae b)) (by rw[aa];simp_all [Xj]<;>omega)),trivial⟩ QNG w6
   refine wB 7 I ?_;exact Q4 ⟨rfl,rfl,rfl,(congrArg (λb=>some (ae b)) (by rw[aa];simp_all [Xj]<;>omega)),trivial⟩ QNG w6
  refine Xl [(0,_),(7,_)] [(46,.bool ((!Vo c)))] wT ?_ ?_
  ·refine wA 2 I<|QA (Jw I)<|QMu I ?_
   refine QY (t:=35) rfl (λK=>?_) λK=>?_
   ·refine wB 6 I ?_;refine QY (t:=39) rfl (λH=>?_) λH=>?_
    ·refine wB 6 I ?_;refine QY (t:=43) rfl (λE=>?_) λE=>?_
     ·refine wB 6 I ?_;exact Q4 ⟨rfl,rfl,(congrArg (λb=>some (ae b)) (by clear a;rw[aa];cases hL:Xj c<;>simp_all [Vo]<;>omega)),trivial⟩ QNG w6
     refine wB 4 I ?_;exact Q4 ⟨rfl,rfl,(congrArg (λb=>some (ae b)) (by clear a;rw[aa];cases hL:Xj c<;>simp_all [Vo]<;>omega)),trivial⟩ QNG w6
    refine wB 8 I ?_;exact Q4 ⟨rfl,rfl,(congrArg (λb=>some (ae b)) (by clear a;rw[aa];cases hL:Xj c<;>simp_all [Vo]<;>omega)),trivial⟩ QNG w6
   refine wB 12 I ?_;exact Q4 ⟨rfl,rfl,(congrArg (λb=>some (ae b)) (by clear a;rw[aa];cases hL:Xj c<;>simp_all [Vo]<;>omega)),trivial⟩ QNG w6
  refine QP I (λhc=>?_) λhc=>?_
  ·have y:Vo (el s i.i).toNat=false:=by
    rw[JB hi];rcases a with ⟨_,h2,_⟩ | ⟨h2,_⟩
    ·rw[<-h2];simpa using hc
    exact AA h2
   refine wA 5 I<|X4 ?_
   exact QO2 I I (congrArg ae (by unfold ko;rw[i.hit hi y];rfl)) wy
  have f:Vo c=true:=by simpa using hc
  have k:s[i.i].toNat<128/\c=s[i.i].toNat/\X=1:=by
   rcases a with h | ⟨_,h2⟩
   ·exact h
   rw[AA h2]at f;cases f
  have Y:X=1:=k.2.2;have hcg:Vo (el s i.i).toNat=true:=by rw[JB hi,<-k.2.1];exact f
  refine QN<|Qf ?_
  exact Qh (i.next hi hcg) (by show s.length-(i.i+1)<s.length-i.i;omega) wT ((by rw[show nsW (some (c,X))=1 from Y];exact bz _)) λF h=>⟨h.1,trivial⟩
 obtain rfl:o=none:=by
  cases o with
  |none=>rfl
  |some x=>cases hc
 have m:s.length<=i.i:=ho;refine Q7 ?_;refine wR I<|QA (Je I J7)<|wB 2 I ?_
 refine QY (t:=50) rfl (λz=>?_) λz=>?_
 ·refine wB 3 I<|QA (Je I J7)<|QOm 7 I ?_
  exact QO2 I I (congrArg ae (by unfold ko;rw[i.stop m];rw[aa];simp at *;simp_all<;>omega)) wy
 refine QOm 8 I ?_;exact QO2 I I (congrArg ae (by unfold ko;rw[i.stop m];rw[aa];simp at *;simp_all<;>omega)) wy
theorem u9(K:Fits F w)(L:s.length<=9223372036854775807):QX prog 53 [tx s] w F (.bool (ko s)):=by
 refine QU.go (G:=λF=>True) func53 K trivial ?_;refine wA 12 I<|J2 (ι:=Wq s λc=>Vo c.toNat) [(0,_)] (λi=>[(3,.int .i64 ((i.i:Nat):Int))]) (λi=>s.length-i.i) (Wq.start _ _) wS wS λi=>?_
 have H:=i.le;refine wA 5 I<|QA (Je I J7)<|QOm 3 I ?_
 refine QP I (λhc=>?_) λhc=>?_
 ·have hi:i.i<s.length:=wg<|QOW hc
  refine QOn 8 I<|QA (Yj (i:=i.i) rfl rfl J7 hi) ?_
  obtain⟨c,a⟩:∃c,c=s[i.i].toNat:=⟨_,rfl⟩;rw[<-a];refine QOm 3 I ?_;refine Xl [(0,_),(3,_)] [(48,.bool ((!Vo c)))] wT ?_ ?_
  ·refine wA 4 I ?_;refine QY (t:=16) rfl (λz=>?_) λz=>?_
   ·refine wB 6 I ?_;refine QY (t:=20) rfl (λy=>?_) λy=>?_
    ·refine wB 3 I<|JM I I<|JM I I<|wB 6 I<|JM I I<|JM I I<|wB 14 I<|QA (Jw I)<|QE ?_
     exact Q4 ⟨rfl,rfl,(congrArg (λb=>some (ae b)) (by clear a;rw[aa];simp_all [Vo,Xj]<;>omega)),trivial⟩ QNG w6
    refine wB 6 I ?_;refine QY (t:=23) rfl (λk=>?_) λk=>?_
    ·refine wB 8 I ?_;refine QY (t:=28) rfl (λj=>?_) λj=>?_
     ·refine wB 3 I<|JM I I<|JM I I<|wB 14 I<|QA (Jw I)<|QE ?_
      exact Q4 ⟨rfl,rfl,(congrArg (λb=>some (ae b)) (by clear a;rw[aa];simp_all [Vo,Xj]<;>omega)),trivial⟩ QNG w6
     refine wB 6 I ?_;refine QY (t:=31) rfl (λh=>?_) λh=>?_
     ·refine wB 8 I ?_;refine QY (t:=36) rfl (λg=>?_) λg=>?_
      ·refine wB 11 I<|QA (Jw I)<|QE ?_
       exact Q4 ⟨rfl,rfl,(congrArg (λb=>some (ae b)) (by clear a;rw[aa];simp_all [Vo,Xj]<;>omega)),trivial⟩ QNG w6
      refine wB 6 I ?_;refine QY (t:=40) rfl (λf=>?_) λf=>?_
      ·refine wB 7 I<|QA (Jw I)<|QE ?_
       exact Q4 ⟨rfl,rfl,(congrArg (λb=>some (ae b)) (by clear a;rw[aa];simp_all [Vo,Xj]<;>omega)),trivial⟩ QNG w6
      refine wB 6 I ?_;refine QY (t:=44) rfl (λd=>?_) λd=>?_
      ·refine wB 3 I<|QA (Jw I)<|QE ?_
       exact Q4 ⟨rfl,rfl,(congrArg (λb=>some (ae b)) (by clear a;rw[aa];simp_all [Vo,Xj]<;>omega)),trivial⟩ QNG w6
      refine wB 5 I<|QA (Jw I)<|QE ?_
      exact Q4 ⟨rfl,rfl,(congrArg (λb=>some (ae b)) (by clear a;rw[aa];simp_all [Vo,Xj]<;>omega)),trivial⟩ QNG w6
     refine wB 12 I ?_;refine QY (t:=40) rfl (λf=>?_) λf=>?_
     ·refine wB 7 I<|QA (Jw I)<|QE ?_
      exact Q4 ⟨rfl,rfl,(congrArg (λb=>some (ae b)) (by clear a;rw[aa];simp_all [Vo,Xj]<;>omega)),trivial⟩ QNG w6
     refine wB 6 I ?_;refine QY (t:=44) rfl (λd=>?_) λd=>?_
     ·refine wB 3 I<|QA (Jw I)<|QE ?_
      exact Q4 ⟨rfl,rfl,(congrArg (λb=>some (ae b)) (by clear a;rw[aa];simp_all [Vo,Xj]<;>omega)),trivial⟩ QNG w6
     refine wB 5 I<|QA (Jw I)<|QE ?_
     exact Q4 ⟨rfl,rfl,(congrArg (λb=>some (ae b)) (by clear a;rw[aa];simp_all [Vo,Xj]<;>omega)),trivial⟩ QNG w6
    refine wB 12 I ?_;refine QY (t:=31) rfl (λh=>?_) λh=>?_
    ·refine wB 8 I ?_;refine QY (t:=36) rfl (λg=>?_) λg=>?_
     ·refine wB 11 I<|QA (Jw I)<|QE ?_
      exact Q4 ⟨rfl,rfl,(congrArg (λb=>some (ae b)) (by clear a;rw[aa];simp_all [Vo,Xj]<;>omega)),trivial⟩ QNG w6
     refine wB 6 I ?_;refine QY (t:=40) rfl (λf=>?_) λf=>?_
     ·refine wB 7 I<|QA (Jw I)<|QE ?_
      exact Q4 ⟨rfl,rfl,(congrArg (λb=>some (ae b)) (by clear a;rw[aa];simp_all [Vo,Xj]<;>omega)),trivial⟩ QNG w6
     refine wB 6 I ?_;refine QY (t:=44) rfl (λd=>?_) λd=>?_
     ·refine wB 3 I<|QA (Jw I)<|QE ?_
      exact Q4 ⟨rfl,rfl,(congrArg (λb=>some (ae b)) (by clear a;rw[aa];simp_all [Vo,Xj]<;>omega)),trivial⟩ QNG w6
     refine wB 5 I<|QA (Jw I)<|QE ?_
     exact Q4 ⟨rfl,rfl,(congrArg (λb=>some (ae b)) (by clear a;rw[aa];simp_all [Vo,Xj]<;>omega)),trivial⟩ QNG w6
    refine wB 12 I ?_;refine QY (t:=40) rfl (λf=>?_) λf=>?_
    ·refine wB 7 I<|QA (Jw I)<|QE ?_
     exact Q4 ⟨rfl,rfl,(congrArg (λb=>some (ae b)) (by clear a;rw[aa];simp_all [Vo,Xj]<;>omega)),trivial⟩ QNG w6
    refine wB 6 I ?_;refine QY (t:=44) rfl (λd=>?_) λd=>?_
    ·refine wB 3 I<|QA (Jw I)<|QE ?_
     exact Q4 ⟨rfl,rfl,(congrArg (λb=>some (ae b)) (by clear a;rw[aa];simp_all [Vo,Xj]<;>omega)),trivial⟩ QNG w6
    refine wB 5 I<|QA (Jw I)<|QE ?_
    exact Q4 ⟨rfl,rfl,(congrArg (λb=>some (ae b)) (by clear a;rw[aa];simp_all [Vo,Xj]<;>omega)),trivial⟩ QNG w6
   refine wB 10 I ?_;refine QY (t:=23) rfl (λk=>?_) λk=>?_
   ·refine wB 8 I ?_;refine QY (t:=28) rfl (λj=>?_) λj=>?_
    ·refine wB 3 I<|JM I I<|JM I I<|wB 14 I<|QA (Jw I)<|QE ?_
     exact Q4 ⟨rfl,rfl,(congrArg (λb=>some (ae b)) (by clear a;rw[aa];simp_all [Vo,Xj]<;>omega)),trivial⟩ QNG w6
    refine wB 6 I ?_;refine QY (t:=31) rfl (λh=>?_) λh=>?_
    ·refine wB 8 I ?_;refine QY (t:=36) rfl (λg=>?_) λg=>?_
     ·refine wB 11 I<|QA (Jw I)<|QE ?_
      exact Q4 ⟨rfl,rfl,(congrArg (λb=>some (ae b)) (by clear a;rw[aa];simp_all [Vo,Xj]<;>omega)),trivial⟩ QNG w6
     refine wB 6 I ?_;refine QY (t:=40) rfl (λf=>?_) λf=>?_
     ·refine wB 7 I<|QA (Jw I)<|QE ?_
      exact Q4 ⟨rfl,rfl,(congrArg (λb=>some (ae b)) (by clear a;rw[aa];simp_all [Vo,Xj]<;>omega)),trivial⟩ QNG w6
     refine wB 6 I ?_;refine QY (t:=44) rfl (λd=>?_) λd=>?_
     ·refine wB 3 I<|QA (Jw I)<|QE ?_
      exact Q4 ⟨rfl,rfl,(congrArg (λb=>some (ae b)) (by clear a;rw[aa];simp_all [Vo,Xj]<;>omega)),trivial⟩ QNG w6
     refine wB 5 I<|QA (Jw I)<|QE ?_
     exact Q4 ⟨rfl,rfl,(congrArg (λb=>some (ae b)) (by clear a;rw[aa];simp_all [Vo,Xj]<;>omega)),trivial⟩ QNG w6
    refine wB 12 I ?_;refine QY (t:=40) rfl (λf=>?_) λf=>?_
    ·refine wB 7 I<|QA (Jw I)<|QE ?_
     exact Q4 ⟨rfl,rfl,(congrArg (λb=>some (ae b)) (by clear a;rw[aa];simp_all [Vo,Xj]<;>omega)),trivial⟩ QNG w6
    refine wB 6 I ?_;refine QY (t:=44) rfl (λd=>?_) λd=>?_
    ·refine wB 3 I<|QA (Jw I)<|QE ?_
     exact Q4 ⟨rfl,rfl,(congrArg (λb=>some (ae b)) (by clear a;rw[aa];simp_all [Vo,Xj]<;>omega)),trivial⟩ QNG w6
    refine wB 5 I<|QA (Jw I)<|QE ?_
    exact Q4 ⟨rfl,rfl,(congrArg (λb=>some (ae b)) (by clear a;rw[aa];simp_all [Vo,Xj]<;>omega)),trivial⟩ QNG w6
   refine wB 12 I ?_;refine QY (t:=31) rfl (λh=>?_) λh=>?_
   ·refine wB 8 I ?_;refine QY (t:=36) rfl (λg=>?_) λg=>?_
    ·refine wB 11 I<|QA (Jw I)<|QE ?_
     exact Q4 ⟨rfl,rfl,(congrArg (λb=>some (ae b)) (by clear a;rw[aa];simp_all [Vo,Xj]<;>omega)),trivial⟩ QNG w6
    refine wB 6 I ?_;refine QY (t:=40) rfl (λf=>?_) λf=>?_
    ·refine wB 7 I<|QA (Jw I)<|QE ?_
     exact Q4 ⟨rfl,rfl,(congrArg (λb=>some (ae b)) (by clear a;rw[aa];simp_all [Vo,Xj]<;>omega)),trivial⟩ QNG w6
    refine wB 6 I ?_;refine QY (t:=44) rfl (λd=>?_) λd=>?_
    ·refine wB 3 I<|QA (Jw I)<|QE ?_
     exact Q4 ⟨rfl,rfl,(congrArg (λb=>some (ae b)) (by clear a;rw[aa];simp_all [Vo,Xj]<;>omega)),trivial⟩ QNG w6
    refine wB 5 I<|QA (Jw I)<|QE ?_
    exact Q4 ⟨rfl,rfl,(congrArg (λb=>some (ae b)) (by clear a;rw[aa];simp_all [Vo,Xj]<;>omega)),trivial⟩ QNG w6
   refine wB 12 I ?_;refine QY (t:=40) rfl (λf=>?_) λf=>?_
   ·refine wB 7 I<|QA (Jw I)<|QE ?_
    exact Q4 ⟨rfl,rfl,(congrArg (λb=>some (ae b)) (by clear a;rw[aa];simp_all [Vo,Xj]<;>omega)),trivial⟩ QNG w6
   refine wB 6 I ?_;refine QY (t:=44) rfl (λd=>?_) λd=>?_
   ·refine wB 3 I<|QA (Jw I)<|QE ?_
    exact Q4 ⟨rfl,rfl,(congrArg (λb=>some (ae b)) (by clear a;rw[aa];simp_all [Vo,Xj]<;>omega)),trivial⟩ QNG w6
   refine wB 5 I<|QA (Jw I)<|QE ?_
   exact Q4 ⟨rfl,rfl,(congrArg (λb=>some (ae b)) (by clear a;rw[aa];simp_all [Vo,Xj]<;>omega)),trivial⟩ QNG w6
  refine QP I (λhc=>?_) λhc=>?_
  ·have o:Vo (el s i.i).toNat=false:=by rw[JB hi,<-a];simpa using hc
   refine wA 5 I<|X4 ?_
   exact QO2 I I (congrArg ae (by unfold ko;rw[i.hit hi o];rfl)) wy
  have E:=hc;refine QN<|Qf<|QOo 3 I<|QA (Qk I I O)<|wB 2 I ?_
  exact Qh (i.next hi (by rw[JB hi,<-a];simpa using E)) (by show s.length-(i.i+1)<s.length-i.i;omega) wT QNG w6
 have m:s.length<=i.i:=wg<|QOX hc
 refine Q7 ?_;refine wR I<|QA (Je I J7)<|wB 2 I ?_
 refine QY (t:=52) rfl (λx=>?_) λx=>?_
 ·refine wB 3 I<|QA (Je I J7)<|QOm 7 I ?_
  exact QO2 I I (congrArg ae (by unfold ko;rw[i.stop m];rw[aa];simp at *;simp_all<;>omega)) wy
 refine QOm 8 I ?_;exact QO2 I I (congrArg ae (by unfold ko;rw[i.stop m];rw[aa];simp at *;simp_all<;>omega)) wy
structure YA where
 nm:Sr
 nl:List (List UInt8)
 rt:Sr
 rl:List UM
 st:Sr
 sl:List (List UInt8×List UInt8)
variable{y:YA}
@[reducible] def YA.v (y:YA):Value:=.agg #[.slice y.nm.q y.nm.n y.nm.cap,.slice y.rt.q y.rt.n y.rt.cap,.slice y.st.q y.st.n y.st.cap]
structure KM(F:Gs)(y:YA):Prop where
 nm:Qz F y.nm.q y.nm.n 1 (y.nl.map tx)
 rt:Qz F y.rt.q y.rt.n 1 (y.rl.map λe=>e.1.v)
 pl:FX F y.rl
 st:Qz F y.st.q y.st.n 2 (y.sl.flatMap D0)
 kq:y.nl.length=y.nm.n
 EC:y.rl.length=y.rt.n
 Sq:y.sl.length=y.st.n
theorem KM.le(h:KM F y)(k:Gs.le F F'):KM F' y:=⟨h.nm.le k,h.rt.le k,h.pl.le k,h.st.le k,h.kq,h.EC,h.Sq⟩
instance{y:YA}: Up (λF=>KM F y):=⟨λk h=>KM.le h k⟩
structure Sg(y:YA):Prop where
 nn:y.nm.n<=1000000
 nc:y.nm.n<=y.nm.cap
 nt:∀s∈y.nl,s.length<=9223372036854775807
 rn:y.rt.n<=1000000
 tm:∀e∈y.rl,QCO e
 sn:y.st.n<=1000000
 st:∀s∈y.sl,s.1.length<=1000000/\s.2.length<=1000000
def DW(nl:List (List UInt8))(i:Nat):Int:=Qn [if(!ko (el nl i))=true then 8 else 0,if decide (el nl i∈nl.take i)=true then 9 else 0]
def Bf(nl:List (List UInt8)):Int:=Qn ((ai nl.length).map (DW nl))
def DB(nl:List (List UInt8))(rl:List Pt)(sl:List (List UInt8×List UInt8)):Int :=
 if nl.length=0 then 12 else if nl.length>24 then 5 else if rl.length≠nl.length\/sl.length≠nl.length then 2 else
  Qn [Bf nl,Qn (rl.map λp=>ZY p nl.length),Qn (sl.map λs=>XF s.1 s.2)]
def YA.e(y:YA):Int:=DB y.nl (y.rl.map λe=>VJ e.2) y.sl
theorem KI:Qn (0::l)=Qn l:=by simp[Qn]
theorem KH{x:Int}(h:x≠0):Qn (x::l)=x:=by simp[Qn,h]
theorem W5{b:Bool}{e:Int}(a:Fits F w):QX prog 60 [.bool b,.int .i64 e] w F (.int .i64 (if b=true then e else 0)):=by
 refine QU.go (G:=λF=>True) func60 a trivial ?_;refine wA 11 I ?_;refine QP I (λhc=>?_) λhc=>?_
 ·refine wA 7 I ?_;exact QO2 I I (congrArg (ah .i64) (by rw[if_pos hc])) wy
 refine QOn 8 I ?_;exact QO2 I I (congrArg (ah .i64) (by rw[if_neg (by rw[hc];decide)])) wy
theorem OA{b:Bool}{e:Int}(a:Fits F w):QX prog 95 [.bool b,.int .i64 e] w F (.int .i64 (if b=true then e else 0)):=by
 refine QU.go (G:=λF=>True) func95 a trivial ?_;refine wA 11 I ?_;refine QP I (λhc=>?_) λhc=>?_
 ·refine wA 7 I ?_;exact QO2 I I (congrArg (ah .i64) (by rw[if_pos hc])) wy
 refine QOn 8 I ?_;exact QO2 I I (congrArg (ah .i64) (by rw[if_neg (by rw[hc];decide)])) wy
theorem BG{q:Option Addr}(j:Fits F w)(g:Qz F q n 1 (l.map JJ))(k:n<=1000000000):QX prog 80 [.slice q n c] w F (.int .i64 (Qn l)):=by
 have h:l.length=n:=by have:=g.1;simpa using this
 have a:Qn l=Qn (l.map id):=by rw[fH]
 refine QU.go (G:=λF=>Qz F q n 1 (l.map JJ)) func80 j g ?_;refine wA 9 I<|QA (Qb I Yv)<|QOm 4 I<|J2 (ι:=X3 l id) [(5,_),(6,_)] (λi=>[(7,.int .i64 ((i.i:Nat):Int))]) (λi=>l.length-i.i) (X3.start _ _) wT wS λi=>?_
 have hi:=i.le;refine wA 6 I ?_;refine QP I (λhc=>?_) λhc=>?_
 ·have b:i.i<l.length:=wg<|QOW hc
  refine QOn 6 I<|QA (Qs (n:=n) i.i w6 rfl rfl Yv WR O)<|QA (Qu (n:=n) ((i.i)*1) w6 O rfl WR (X0 (f:=JJ) (l:=l) O))<|QOm 9 I ?_
  refine QP I (λhc=>?_) λhc=>?_
  ·have h12:id (el l i.i)≠0:=bne_iff_ne.1 hc;refine wA 6 I<|X4 ?_
   exact QO2 I I (congrArg (ah .i64) (a ▸ i.hit b h12)) wy
  have h12:id (el l i.i)=0:=bne_eq_false_iff_eq.1 hc;refine QN<|Qf<|QD<|QB<|QA (Qk I I O)<|wB 2 I ?_
  exact Qh (i.next b h12) (by show l.length-(i.i+1)<l.length-i.i;omega) wU QNG w6
 have d:l.length<=i.i:=wg<|QOX hc
 refine Q7 ?_;refine wA 6 I ?_;exact QO2 I I (congrArg (ah .i64) (a ▸ i.stop d)) wy
theorem zS{q:Option Addr}(j:Fits F w)(g:Qz F q n 1 (l.map JJ))(k:n<=1000000000):QX prog 35 [.slice q n c] w F (.int .i64 (Qn l)):=by
 have h:l.length=n:=by have:=g.1;simpa using this
 have a:Qn l=Qn (l.map id):=by rw[fH]
 refine QU.go (G:=λF=>Qz F q n 1 (l.map JJ)) func35 j g ?_;refine wA 9 I<|QA (Qb I Yv)<|QOm 4 I<|J2 (ι:=X3 l id) [(5,_),(6,_)] (λi=>[(7,.int .i64 ((i.i:Nat):Int))]) (λi=>l.length-i.i) (X3.start _ _) wT wS λi=>?_
 have hi:=i.le;refine wA 6 I ?_;refine QP I (λhc=>?_) λhc=>?_
 ·have b:i.i<l.length:=wg<|QOW hc
  refine QOn 6 I<|QA (Qs (n:=n) i.i w6 rfl rfl Yv WR O)<|QA (Qu (n:=n) ((i.i)*1) w6 O rfl WR (X0 (f:=JJ) (l:=l) O))<|QOm 9 I ?_
  refine QP I (λhc=>?_) λhc=>?_
  ·have h12:id (el l i.i)≠0:=bne_iff_ne.1 hc;refine wA 6 I<|X4 ?_
   exact QO2 I I (congrArg (ah .i64) (a ▸ i.hit b h12)) wy
  have h12:id (el l i.i)=0:=bne_eq_false_iff_eq.1 hc;refine QN<|Qf<|QD<|QB<|QA (Qk I I O)<|wB 2 I ?_
  exact Qh (i.next b h12) (by show l.length-(i.i+1)<l.length-i.i;omega) wU QNG w6
 have d:l.length<=i.i:=wg<|QOX hc
 refine Q7 ?_;refine wA 6 I ?_;exact QO2 I I (congrArg (ah .i64) (a ▸ i.stop d)) wy
theorem Ae{q:Option Addr}{f:Nat}{ls:List UM}{fE:UM->Int}(o:Fits F w)(hg:∀F F',Gs.le F F'->G0 F->G0 F')(h0:G0 F)(m:Qz F q n 1 (ls.map λe=>e.1.v))(x:ls.length=n)(hb:n<=1000000)(hc:∀e∈ls,∀w F,Fits F w->G0 F->QX prog f (c1++[e.1.v]++c2) w F (.int .i64 (fE e))):
  QX prog 90 [.slice q n c,.func (.func f) c1.toArray c2.toArray] w F (.int .i64 (Qn (ls.map fE))):=by
 refine QU.intro (G:=λF=>G0 F/\Qz F q n 1 (ls.map λe=>e.1.v)) func90 rfl wm rfl rfl o (λF' g=>⟨hg F F' g h0,m.le g⟩)<|QNz<|wQ rfl<|QG<|wR rfl<|QA (Qb rfl WY)<|QMu rfl<|QMt<|QQ<|J2 (ι:=X3 ls fE) [(1,_),(8,_),(9,_)] (λi=>[(10,.int .i64 ((i.i:Nat):Int))]) (λi=>ls.length-i.i) (X3.start _ _) wU wS λi=>?_
 have hi:=i.le;refine wA 6 I ?_;refine QP I (λa=>?_) λa=>?_
 ·have b:i.i<ls.length:=wg<|QOW a
  have j:=Qy b;refine QOn 6 I<|QA (Qs (n:=n) i.i w8 rfl rfl WY GI O)<|QA (Qu (n:=n) ((i.i)*1) w8 O rfl GI (X0 (f:=λe:UM=>e.1.v) (l:=ls) O))<|QOm 7 I<|GQ (c1:=c1) (c2:=c2) rfl rfl (λw F f k=>hc _ j w F f k.1) λ_=>QOm 9 I ?_
  refine QP I (λa=>?_) λa=>?_
  ·have d:=bne_iff_ne.1 a;refine wA 6 I<|X4 ?_
   exact QO2 I I (congrArg (ah .i64) (i.hit b d)) wy
  have d:=bne_eq_false_iff_eq.1 a;refine QN<|Qf<|QD<|QB<|QA (Qk I I O)<|wB 2 I ?_
  exact Qh (i.next b d) (by show ls.length-(i.i+1)<ls.length-i.i;omega) wV QNG w7
 have h:ls.length<=i.i:=wg<|QOX a
 refine Q7 ?_;refine wA 6 I ?_;exact QO2 I I (congrArg (ah .i64) (i.stop h)) wy
theorem Ad{q:Option Addr}{f:Nat}{ls:List (List UInt8×List UInt8)}{fE:List UInt8×List UInt8->Int}(x:Fits F w)(hg:∀F F',Gs.le F F'->G0 F->G0 F')(h0:G0 F)(o:Qz F q n 2 (ls.flatMap D0))(y:ls.length=n)(hb:n<=1000000)(hc:∀e∈ls,∀w F,Fits F w->G0 F->QX prog f (c1++[.agg #[tx e.1,tx e.2]]++c2) w F (.int .i64 (fE e))):
  QX prog 92 [.slice q n c,.func (.func f) c1.toArray c2.toArray] w F (.int .i64 (Qn (ls.map fE))):=by
 refine QU.intro (G:=λF=>G0 F/\Qz F q n 2 (ls.flatMap D0)) func92 rfl wm rfl rfl x (λF' g=>⟨hg F F' g h0,o.le g⟩)<|QNz<|wQ rfl<|QG<|wR rfl<|QA (Qb rfl ZG)<|QMu rfl<|QMt<|QQ<|J2 (ι:=X3 ls fE) [(1,_),(8,_),(9,_)] (λi=>[(10,.int .i64 ((i.i:Nat):Int))]) (λi=>ls.length-i.i) (X3.start _ _) wU wS λi=>?_
 have hi:=i.le;refine wA 6 I ?_;refine QP I (λa=>?_) λa=>?_
 ·have b:i.i<ls.length:=wg<|QOW a
  have m:=Qy b;refine QOn 6 I<|QA (Qs (n:=n) i.i w8 rfl rfl ZG Xb O)<|QA (J0 (n:=n) (vs:=[tx (el ls i.i).1,tx (el ls i.i).2]) ((i.i)*2) w8 O rfl Xb I λj v hv=>JX (f:=D0) (l:=ls) Yy O hv)<|Qe Mh λz=>QV (vs:=[_,_]) I I I Xb I .here .h2 wT<|QOm 5 I<|QA (wH I Xb .here)<|GQ (c1:=c1) (c2:=c2) rfl rfl (λw F f k=>hc _ m w F f k.1) λ_=>QOm 9 I ?_
  refine QP I (λa=>?_) λa=>?_
  ·have d:=bne_iff_ne.1 a;refine wA 6 I<|X4 ?_
   exact QO2 I I (congrArg (ah .i64) (i.hit b d)) wy
  have d:=bne_eq_false_iff_eq.1 a;refine QN<|Qf<|QD<|QB<|QA (Qk I I O)<|wB 2 I ?_
  exact Qh (i.next b d) (by show ls.length-(i.i+1)<ls.length-i.i;omega) wV (tA) w7
 have h:ls.length<=i.i:=wg<|QOX a
 refine Q7 ?_;refine wA 6 I ?_;exact QO2 I I (congrArg (ah .i64) (i.stop h)) wy
structure NoI(l:List (List UInt8))(v:List UInt8) where
 i:Nat
 le:i<=l.length
 h:∀j,j<i->¬el l j=v
theorem NoI.stop{l:List (List UInt8)}{v:List UInt8}(s:NoI l v)(h:l.length<=s.i):¬v∈l:=λhm=>by
 obtain⟨j,a,e⟩:=fa hm;exact s.h j O (by rw[JB a];exact e)
theorem yF{q:Option Addr}{l:List (List UInt8)}{v:List UInt8}(o:Fits F w)(g:Qz F q n 1 (l.map tx))(x:l.length=n)(hb:n<=1000000000):QU prog 165 [.slice q n c,tx v] w F (λ(k:Int)=>.int .i64 k) (λk _=>decide (k>=0)=decide (v∈l)):=by
 refine QU.go (G:=λF=>Qz F q n 1 (l.map tx)) func165 o g ?_;refine wA 9 I<|QA (Qb I Kt)<|QOm 4 I<|J2 (ι:=NoI l v) [(0,_),(1,_),(7,_)] (λi=>[(8,.int .i64 ((i.i:Nat):Int))]) (λi=>l.length-i.i) (⟨0,aq _,λj h=>absurd h (eI _)⟩) wU wS λi=>?_
 have hi:=i.le;refine wA 6 I ?_;refine QP I (λhc=>?_) λhc=>?_
 ·have b:i.i<l.length:=wg<|QOW hc
  refine QOn 15 I<|QA (Qs (n:=n) i.i w6 rfl rfl Kt Em O)<|QA (Qu (n:=n) ((i.i)*1) w6 O rfl Em (X0 (f:=tx) (l:=l) O))<|QA (Yw I I)<|QE<|QD ?_
  refine QP I (λhc=>?_) λhc=>?_
  ·have a:v=el l i.i:=by simpa using hc
   have hm:v∈l:=by rw[a];exact Qy b
   refine wA 6 I<|X4 ?_
   exact QO (((i.i:Nat):Int)) I (wN I) (rfl) λF g=>by simp[hm]
  have a:¬v=el l i.i:=by simpa using hc
  refine QN<|Qf<|QD<|QB<|QA (Qk I I O)<|wB 2 I ?_
  exact Qh (⟨i.i+1,b,λj m=>by rcases Nat.lt_succ_iff_lt_or_eq.1 m with h | rfl;exact i.h j h;exact λe=>a e.symm⟩) (by show l.length-(i.i+1)<l.length-i.i;omega) wV QNG w6
 have d:l.length<=i.i:=wg<|QOX hc
 refine Q7 ?_;refine wA 6 I ?_;exact QO ((-1:Int)) I (wN I) (rfl) λF g=>by simp[i.stop d]
theorem FA{q:Option Addr}{l:List (List UInt8)}{v:List UInt8}(d:Fits F w)(b:Qz F q n 1 (l.map tx))(a:l.length=n)(hb:n<=1000000000):QX prog 89 [.slice q n c,tx v] w F (.bool (decide (v∈l))):=by
 refine QU.go (G:=λF=>Qz F q n 1 (l.map tx)) func89 d b ?_;refine wA 9 I<|QL I (λ_ _ f k=>yF f k a hb) λg=>J5 _ (λ_ _ f h=>h.2) λh7=>QOm 5 I ?_
 exact QO2 I I (congrArg ae h7.symm) wy
theorem TU{v:Int}{e:UM}(h:Fits F w)(d:JU F)(i:F b=some (#[.int .i64 v],3))(g:Qz F e.1.q e.1.n 2 (e.2.flatMap EX))(j:Wp F e.2)(ht:QCO e)(hv:0<=v/\v<=24):QX prog 91 [e.1.v,.pointer (some ⟨b,0,none⟩)] w F (.int .i64 (ZY (VJ e.2) v)):=by
 obtain⟨⟨q,n,c⟩,ps⟩:=e;dsimp only[Sr.v]at *
 refine QU.intro (G:=λF=>JU F/\F b=some (#[.int .i64 v],3)/\Qz F q n 2 (ps.flatMap EX)/\Wp F ps) func91 rfl wm rfl rfl h (λF' a=>⟨d.le a,a _ _ i,g.le a,j.le a⟩)<|QNz<|wQ rfl<|wR rfl<|QA (Qu (n:=1) ((0)*1) (λF h9=>(Qz.of (n:=1) (sz:=1) h9.2.1 rfl)) O rfl Qo rfl)<|QL rfl (λ_ _ f k=>Tf f k.1 k.2.2.1 k.2.2.2 ht.1 ht.2.1 ht.2.2) λ_=>wQ rfl<|QW ?_
 exact QO2 I I (congrArg (ah .i64) (by unfold L5;rw[if_pos ((SN v).2 hv)])) wy
def BW(n r s:Nat):Int:=Qn [if decide ((n:Int)=0)=true then 12 else 0,if decide ((n:Int)>24)=true then 5 else 0,if((r:Int) != n||(s:Int) != n)=true then 2 else 0]
theorem Qz.QCl{q:Option Addr}{l:List (List UInt8)}(h:Qz F q n 1 (l.map tx))(i:l.length=n)(hk:k<=l.length):Qz F q k 1 ((l.take k).map tx):=by
 refine⟨wv,λh0=>?_⟩;obtain⟨b,off,a,T,f,d,e3⟩:=h.2 O;refine⟨b,off,a,T,f,d,λj u hu=>e3 j u ?_⟩;rw[List.map_take]at hu;have c:j<k:=by
  rcases aD j k with g | g
  ·exact g
  rw[List.getElem?_eq_none wv]at hu;cases hu
 rw[List.getElem?_take_of_lt c]at hu;exact hu
theorem jz{nl:List (List UInt8)}{rl:List Pt}{sl:List (List UInt8×List UInt8)}(h:BW nl.length rl.length sl.length≠0):DB nl rl sl=BW nl.length rl.length sl.length:=by
 unfold DB;by_cases h1:nl.length=0
 ·rw[if_pos h1];simp[BW,h1,Qn]
 rw[if_neg h1];by_cases h2:nl.length>24
 ·rw[if_pos h2];simp[BW,h1,Qn];omega
 rw[if_neg h2];by_cases h3:rl.length≠nl.length\/sl.length≠nl.length
 ·rw[if_pos h3];have e:((rl.length:Int) != nl.length||(sl.length:Int) != nl.length)=true:=by simp only[bL,bne_iff_ne];omega
  unfold BW;rw[e];simp[h1,Qn];omega
 exfalso;apply h;have e:((rl.length:Int) != nl.length||(sl.length:Int) != nl.length)=false:=by rw[Bool.eq_false_iff];simp only[ne_eq,bL,bne_iff_ne];omega
 unfold BW;rw[e];simp[h1,Qn];omega
theorem Sn{r s:Nat}(h:BW n r s=0):n≠0/\n<=24/\r=n/\s=n:=by
 unfold BW at h;by_cases h1:n=0
 ·simp[h1,Qn]at h
 by_cases h2:n>24
 ·have:((n:Int)>24):=O;simp[h1,this,Qn]at h
 by_cases h3:r≠n\/s≠n
 ·have e:((r:Int) != n||(s:Int) != n)=true:=by simp only[bL,bne_iff_ne];omega
  have h4:¬((n:Int)>24):=O;rw[e]at h;simp[h1,h4,Qn]at h
 omega
theorem IB{nl:List (List UInt8)}{rl:List Pt}{sl:List (List UInt8×List UInt8)}(h:BW nl.length rl.length sl.length=0):DB nl rl sl=Qn [Bf nl,Qn (rl.map λp=>ZY p nl.length),Qn (sl.map λs=>XF s.1 s.2)]:=by
 obtain⟨h1,h2,h3,h4⟩:=Sn h;unfold DB;rw[if_neg h1,if_neg O,if_neg O]
theorem G3(hF:Fits F w)(U:JU F)(hy:KM F y)(ht:Sg y):QX prog 36 [y.v] w F (.int .i64 y.e):=by
 obtain⟨⟨qn,E,cn⟩,nl,⟨qr,K,cr⟩,rl,⟨Y,H,cs⟩,sl⟩:=y;have c:=hy.kq;have o:=hy.EC;have m:=hy.Sq;have hnn:=ht.nn;have hrn:=ht.rn;have hsn:=ht.sn;dsimp only at *
 dsimp only[YA.v];refine QU.go (G:=λF=>JU F/\KM F ⟨⟨qn,E,cn⟩,nl,⟨qr,K,cr⟩,rl,⟨Y,H,cs⟩,sl⟩) func36 hF ⟨U,hy⟩ ?_;refine QNz<|Qv I (vs:=[_,_,_]) I λb1=>QOm 5 I<|QA (QH I G6 Ks)<|QA (Qa I Ks .here .h1)<|QA (Qb I Kt)<|Qe MK λb3=>QV (vs:=[_]) I I I Qo I .here .h1 wS<|QMt<|QG ?_
 refine Xl [(1,_),(3,_)] [(4,.int .i64 (BW E K H))] wT ?_ ?_
 ·refine JO QNG mixed wi<|QK (Qa I Qo .here .h1)<|QK (QM I I I)<|QZ I (λ_ _ f k=>W5 f ) λ_=>QK (Qa I Qo .here .h1)<|QK (QM I I I)<|QZ I (λ_ _ f k=>W5 f ) λ_=>QK (QH I WO YQ)<|QK (Qa I YQ .u1 (.skip .h1))<|QK (Qb I WY)<|QK (Qa I Qo .here .h1)<|QK (QM I I I)<|QK (QC I) ?_
  refine Vl (t:=22) rfl (λj=>?_) λj=>?_
  ·refine Q6 I I I<|Q6 I I I<|Q6 I I I<|Q6 I I I<|Q6 I I I<|QK (QT I I I)<|QZ I (λ_ _ f k=>W5 f ) λ_=>?_
   refine JK I (Jc Yv) WR Fj I I (λX=>?_) (λw h=>h.imp w9 λF h=>h.1.1.1);refine QZ I (λ_ _ f k=>BG f (Qz.of (cs:=eB JJ [_,_,_]) k.2 I) wj) (λ_=>QK (QF I)<|Qw ?_);exact Q4 ⟨rfl,rfl,(congrArg (λb=>some (ah .i64 b)) (by unfold BW;rw[j];rfl)),trivial⟩ QNG λ_ h=>h.1.1.1.1.1
  refine JF I I<|QK (QH I Vv ZF)<|JF I I<|QK (Qa I ZF .u1 (.skip (.skip .h1)))<|JF I I<|QK (Qb I ZG)<|JF I I<|QK (Qa I Qo .here .h1)<|JF I I<|QK (QM I I I)<|QK (QS I I I)<|QZ I (λ_ _ f k=>W5 f ) λ_=>?_
  refine JK I (Jc Yv) WR Fj I I (λX=>?_) (λw h=>h.imp w9 λF h=>h.1.1.1);refine QZ I (λ_ _ f k=>BG f (Qz.of (cs:=eB JJ [_,_,_]) k.2 I) wj) (λ_=>QK (QF I)<|Qw ?_);exact Q4 ⟨rfl,rfl,(congrArg (λb=>some (ah .i64 b)) (by unfold BW;rw[j];rfl)),trivial⟩ QNG λ_ h=>h.1.1.1.1.1
 refine wA 6 I ?_;refine QP I (λhc=>?_) λhc=>?_
 ·have z:=bne_iff_ne.1 hc;refine wA 7 I ?_;exact QO2 I I (congrArg (ah .i64) (by show DB nl (rl.map λe=>VJ e.2) sl=BW E K H;rw[jz (by rw[af,c,o,m];exact z),af,c,o,m])) wy
 have z:=bne_eq_false_iff_eq.1 hc;have h0:BW nl.length (rl.map λe=>VJ e.2).length sl.length=0:=by rw[af,c,o,m];exact z
 obtain⟨hq1,hq2,hq3,hq4⟩:=Sn z;refine QOn 5 I<|QA (QH I G6 Ks)<|QA (Qa I Ks .u1 .h1)<|QA (Qb I Kt)<|QOm 4 I<|J2 (ι:=X3 (ai nl.length) (DW nl)) [(1,_),(3,_),(36,_),(37,_)] (λi=>[(38,.int .i64 ((i.i:Nat):Int))]) (λi=>nl.length-i.i) (X3.start _ _) wV wS λi=>?_
 have hi:=i.le;rw[aG]at hi;refine wA 6 I ?_;refine QP I (λhc=>?_) λhc=>?_
 ·have a:i.i<nl.length:=wg<|QOW hc
  refine QOn 7 I<|QA (Qs (n:=E) i.i (λF h9=>h9.2.nm) rfl rfl Kt Em O)<|QA (Qu (n:=E) ((i.i)*1) (λF h9=>h9.2.nm) O rfl Em (X0 (f:=tx) (l:=nl) O))<|QOm 5 I<|JO QNG mixed wi<|QK (QC I)<|QZ I (λ_ _ f k=>pE f (ht.nt _ (Qy a))) λ_=>QK (Jw I)<|QZ I (λ_ _ f k=>W5 f ) λ_=>QK (QH I G6 Ks)<|QK (Qa I Ks .u1 .h1)<|QK (QC I)<|QK (MQ i.i I I I Kt Em (by have:=ht.nc;dsimp only at this;omega))<|QK (QC I)<|QZ I (λ_ _ f k=>FA f (Qz.QCl (l:=nl) k.1.1.2.nm c hi) (by rw[bU];omega) O) λ_=>QZ I (λ_ _ f k=>W5 f ) λ_=>?_
  refine JK I (Jc Yv) WR Fj I I (λb54=>?_) (λw h=>h.imp w9 λF h=>h.1.1.1.1);refine QZ I (λ_ _ f k=>BG f (Qz.of (cs:=eB JJ [_,_]) k.2 I) wj) (λ_=>QK (QF I)<|Qw<|QOo 7 I ?_);refine QP I (λhc=>?_) λhc=>?_
  ·have x:=bne_iff_ne.1 hc;refine wA 6 I<|X4 ?_
   exact QO2 I I (congrArg (ah .i64) (by show DB nl (rl.map λe=>VJ e.2) sl=_;rw[IB h0];have h9:=i.hit (by rw[aG];exact a) (by rw[Kw a];exact x);rw[Kw a]at h9;rw[show Bf nl=DW nl i.i from h9,KH (show DW nl i.i≠0 from x)];rfl)) wy
  have x:=bne_eq_false_iff_eq.1 hc;refine QN<|Qf<|QD<|QB<|QA (Qk I I O)<|wB 2 I ?_
  exact Qh (i.next (by rw[aG];exact a) (by rw[Kw a];exact x)) (by show nl.length-(i.i+1)<nl.length-i.i;omega) wW QNG λF h=>h.1.1.1.1.1.1
 have L:nl.length<=i.i:=wg<|QOX hc
 refine Q7 ?_;refine QG<|MH (b:=b3) .here<|JO QNG mixed wi<|QK (QH I WO YQ)<|QK (Qa I YQ .here (.skip .h1))<|QK (PA I)<|QZ I (λw F g k=>Ae (f:=91) (fE:=λe=>ZY (VJ e.2) (E:Int)) (c1:=[]) (c2:=[.pointer (some ⟨b3,0,none⟩)]) (G0:=λF=>JU F/\FX F rl/\F b3=some (#[.int .i64 (E:Int)],3)) g (λF F' d h=>⟨h.1.le d,h.2.1.le d,d _ _ h.2.2⟩) ⟨k.1.1,k.1.2.pl,k.2⟩ k.1.2.rt o O λe he w F g h=>TU g h.1 h.2.2 (h.2.1 e he).1 (h.2.1 e he).2 (ht.tm e he) O) λ_=>QK (QH I Vv ZF)<|QK (Qa I ZF .here (.skip (.skip .h1)))<|QZ I (λw F g k=>Ad (f:=37) (fE:=λs=>XF s.1 s.2) (c1:=[]) (c2:=[]) (G0:=λF=>JU F) g (λF F' d h=>h.le d) k.1.1.1 k.1.1.2.st m O λe he w F g h=>HK g h (ht.st e he)) λ_=>?_
 refine JK I (Jc Yv) WR Fj I I (λb67=>?_) (λw h=>h.imp w9 λF h=>h.1.1);refine QZ I (λ_ _ f k=>BG f (Qz.of (cs:=eB JJ [_,_]) k.2 I) wj) (λ_=>QK (QF I)<|Qw<|QD<|QW ?_);exact QO2 I I (congrArg (ah .i64) (by show DB nl (rl.map λe=>VJ e.2) sl=_;rw[IB h0];have h9:=i.stop (by rw[aG];exact L);rw[show Bf nl=0 from h9,KI,bO,c];rfl)) wy
theorem Fa{a:List UInt8}{d:Int}(j:Fits F w)(hd:0<=d/\d<=1000):QX prog 6 [tx a,.int .i64 d] w F (.bool (WL a d)):=by
 have m:=R4 a;refine QU.go (G:=λF=>True) func6 j trivial ?_;refine wA 8 I<|QA (Je I VI)<|QMu I<|QA (We I I O)<|QA (Qk I I O)<|wB 2 I ?_
 refine QY (t:=11) rfl (λc=>?_) λc=>?_
 ·have i:a.length<=1000000:=by have h1:=QOW c;omega
  refine wB 3 I<|QL I (λ_ _ f k=>Gu f (i)) λ_=>wB 4 I ?_
  refine QY (t:=16) rfl (λb=>?_) λb=>?_
  ·refine wB 3 I<|QL I (λ_ _ f k=>xN f O) λ_=>QJ I I<|QL I (λ_ _ f k=>xW f ) λ_=>QJ I I<|QA (Je I VI)<|wB 6 I ?_
   refine QY (t:=24) rfl (λh=>?_) λh=>?_
   ·refine wB 3 I<|QL I (λ_ _ f k=>xT f O) λ_=>QJ I I<|QA (Je I VI)<|QOm 9 I ?_
    exact QO2 I I ((congrArg ae (by have h1:=QOW c;simp[WL,h1];simp at b h;simp[b,h]))) wy
   refine QOm 10 I ?_;exact QO2 I I ((congrArg ae (by have h1:=QOW c;simp[WL,h1];simp at b h;simp[b];intro g;omega))) wy
  refine QOm 18 I ?_;exact QO2 I I ((congrArg ae (by have h1:=QOW c;simp at b;simp[WL,h1,b]))) wy
 refine QOm 23 I ?_;exact QO2 I I ((congrArg ae (by simp[WL,c]))) wy
theorem Lt{q:Option Addr}{n:Nat}{m d:Int}{l:List (List UInt8×List UInt8)}(y:Fits F w)(x:Qz F q n 2 (l.flatMap D0))(o:l.length=n)(hd:0<=d/\d<=1000)(z:n<=1000000):QX prog 20 [.slice q n c,.int .i64 m,.int .i64 d] w F (.bool (decide ((n:Int)<=m)&&l.all (Mx d))):=by
 have j:=o;refine QU.go (G:=λF=>Qz F q n 2 (l.flatMap D0)) func20 y x ?_;refine wA 9 I<|QA (Qb I ZG)<|QOm 4 I ?_
 refine QP I (λhc=>?_) λhc=>?_
 ·have hg:=QOW hc;refine wA 6 I ?_;exact QO2 I I (congrArg ae (by have h1:decide ((n:Int)<=m)=false:=decide_eq_false O;rw[h1];rfl)) wy
 have hg:=QOX hc;refine QOn 9 I<|J2 (ι:=Wq l (Mx d)) [(0,_),(2,_)] (λi=>[(7,.int .i64 ((i.i:Nat):Int))]) (λi=>l.length-i.i) (Wq.start _ _) wT wS λi=>wA 5 I<|QA (Qb I ZG)<|QOm 3 I ?_
 refine QP I (λhc=>?_) λhc=>?_
 ·have hi:i.i<l.length:=wg<|QOW hc
  refine QOn 4 I ?_;refine Xl [(0,_),(2,_),(7,_)] [(49,.bool (!Mx d (el l i.i)))] wU ?_ ?_
  ·refine JO QNG mixed wi<|QK (QC I)<|QK (QC I)<|QK (Qs (n:=n) i.i w6 rfl rfl ZG Xb O)<|QK (QH I Vu JQ)<|QK (Qu (n:=n) ((i.i)*2+0) w6 O rfl JQ (JX (f:=D0) (l:=l) Yy O rfl))<|QK (QC I)<|QZ I (λ_ _ f k=>Fa f hd) λ_=>QK (Jw I)<|QK (QC I) ?_
   refine Vl (t:=26) rfl (λa=>?_) λa=>?_
   ·refine Q6 I I I<|Q6 I I I<|Q6 I I I<|Q6 I I I<|Q6 I I I<|Q6 I I I<|Q6 I I I<|Q6 I I I<|QK (QT I I I)<|QK (QC I)<|Q6 I I I<|Q6 I I I<|Q6 I I I<|Q6 I I I<|Q6 I I I<|Q6 I I I<|Q6 I I I<|Q6 I I I<|Q6 I I I<|Q6 I I I<|Q6 I I I<|Q6 I I I<|QK (QT I I I)<|Qw ?_
    exact Q4 ⟨rfl,rfl,rfl,(congrArg (λb=>some (ae b)) (by simp at a;simp[Mx,a])),trivial⟩ QNG w7
   refine JF I I<|QK (QC I)<|JF I I<|QK (QC I)<|JF I I<|QK (Qs (n:=n) i.i w6 rfl rfl ZG Xb O)<|JF I I<|QK (QH I WM JQ)<|JF I I<|QK (Qu (n:=n) ((i.i)*2+1) w6 O rfl JQ (JX (f:=D0) (l:=l) Yy O rfl))<|JF I I<|QK (QC I)<|JF I I<|QZ I (λ_ _ f k=>Fa f hd) λ_=>JF I I<|QK (Jw I)<|QK (QS I I I)<|QK (QC I) ?_
   refine Vl (t:=36) rfl (λg=>?_) λg=>?_
   ·refine Q6 I I I<|Q6 I I I<|Q6 I I I<|Q6 I I I<|Q6 I I I<|Q6 I I I<|Q6 I I I<|Q6 I I I<|Q6 I I I<|Q6 I I I<|Q6 I I I<|Q6 I I I<|QK (QT I I I)<|Qw ?_
    exact Q4 ⟨rfl,rfl,rfl,(congrArg (λb=>some (ae b)) (by simp at a g;simp[Mx,a,g])),trivial⟩ QNG λ_ h=>h.1.1
   refine JF I I<|QK (QC I)<|JF I I<|QK (QC I)<|JF I I<|QK (Qs (n:=n) i.i w6 rfl rfl ZG Xb O)<|JF I I<|QK (QH I Vu JQ)<|JF I I<|QK (Qu (n:=n) ((i.i)*2+0) w6 O rfl JQ (JX (f:=D0) (l:=l) Yy O rfl))<|JF I I<|QK (QC I)<|JF I I<|QK (QC I)<|JF I I<|QK (Qs (n:=n) i.i w6 rfl rfl ZG Xb O)<|JF I I<|QK (QH I WM JQ)<|JF I I<|QK (Qu (n:=n) ((i.i)*2+1) w6 O rfl JQ (JX (f:=D0) (l:=l) Yy O rfl))<|JF I I<|QZ I (λ_ _ f k=>Lv f (Ek (by simpa using a)) (Ek (by simpa using g))) λ_=>JF I I<|QK (QM I I I)<|QK (QS I I I)<|Qw ?_
   exact Q4 ⟨rfl,rfl,rfl,(congrArg (λb=>some (ae b)) (by simp at a g;simp[Mx,a,g])),trivial⟩ QNG λ_ h=>h.1.1.1
  refine QP I (λhc=>?_) λhc=>?_
  ·refine wA 5 I<|X4 ?_
   exact QO2 I I (congrArg ae (by rw[i.hit hi (by simpa using hc),fy])) wy
  refine QN<|Qf<|QOo 3 I<|QA (Qk I I O)<|wB 2 I ?_
  exact Qh (i.next hi (by simpa using hc)) (by show l.length-(i.i+1)<l.length-i.i;omega) wU QNG w6
 have hi:l.length<=i.i:=wg<|QOX hc
 refine Q7 ?_;refine wA 6 I ?_;exact QO2 I I (congrArg ae (by rw[i.stop hi];have h1:decide ((n:Int)<=m)=true:=decide_eq_true O;rw[h1];rfl)) wy
theorem Mi(r:Rat):Jr (Q5 r)=r:=by
 unfold Jr Q5;by_cases h:r.den=1
 ·rw[if_pos h,ET (VN _)];dsimp only;rw[if_neg wj,ZN];have:=fz r;rw[h,Rat.mkRat_one]at this;exact this
 rw[if_neg h,G8 (VN _)];dsimp only;rw[if_pos rfl,ZN,Jh];exact fz r
theorem I7{l:List UInt8}(h:JA l≠n):¬aW n=l:=λe=>h (by rw[<-e,Jh])
theorem Nf{r:Rat}(h:XV r=false):JW (Q5 r)=0:=by
 unfold XV Ey at h;rw[eZ]at h;have h1:=QOX h.1;have h2:=QOX h.2;have b:¬600<(aW r.num.natAbs).length:=λe=>h1 ((TM _).1 e);have c:¬600<(aW r.den).length:=λe=>h2 (by rw[aV];exact(TM _).1 e);have a:(Lib.hasPrefix (XR r.num) [45]&&aW r.num.natAbs==[48])=false:=by
  by_cases g:r.num<0
  ·have:¬aW r.num.natAbs=[48]:=I7 (by show 0≠_;omega);rw[beq_false_of_ne this,fy]
  rw[Jd O,YN (JL _)];rfl
 unfold JW Q5;by_cases hd:r.den=1
 ·rw[if_pos hd,ET (VN _)];dsimp only;unfold WQ FG;rw[VK,BQ,a,decide_eq_false b];simp
 rw[if_neg hd,G8 (VN _)];dsimp only;unfold WQ FG;have h0:¬aW r.den=[48]:=I7 (by show 0≠_;have:=r.den_nz;omega);have h9:¬aW r.den=[49]:=I7 (by show 1≠_;omega);have hg:Nat.gcd r.num.natAbs r.den=1:=r.reduced;rw[VK,BQ,BQ,a,decide_eq_false b,decide_eq_false c,Jh,Jh,hg,beq_false_of_ne h0,beq_false_of_ne h9];simp
theorem Wr{r:Rat}(h:J6 r<=k)(hk:k<=1800):XV r=false:=by
 unfold XV Ey;have a:∀z:Int,sz z<=k->decide (lim<=z.natAbs)=false:=λz hz=>by
  have h1:=(J3 z 1800).1 O;have h2:=OG;refine decide_eq_false λe=>?_;exact absurd (Nat.lt_trans (Nat.lt_of_le_of_lt e h1) h2) (fC _)
 rw[a _ (ay (Ji r) h),a _ (ay (Jb r) h)];rfl
section
variable{w:World}{F:Gs}
theorem Tn{a b:Rat}(ha:XV a=false)(hb:XV b=false)(h:a<=b):XF (Q5 a) (Q5 b)=0:=by
 unfold XF;rw[Nf ha,Nf hb,if_pos (show Qn [0,0]=0 from rfl),Mi,Mi,if_neg];have:=(Tj a b).2 h;omega
end
theorem Qz.pre{sz:Nat}{cs:List Value}{T:TypeId}(h:F b=some ((cs++rest).toArray,T))(a:cs.length=n*sz):Qz F (some ⟨b,0,none⟩) n sz cs :=
 ⟨a,λ_=>⟨b,0,_,T,rfl,h,λj u hu=>by
  have c:j<cs.length:=by rcases aD j cs.length with g | g;exact g;rw[List.getElem?_eq_none g]at hu;cases hu
  rw[aH,List.getElem?_toArray,List.getElem?_append_left c];exact hu⟩⟩
theorem QAn{g:Nat}{es:List VB}{v:List (List (Rat×Rat))}(d:F g=some ((es.map (VB.sl k)).toArray,94))(a:∀e∈es,F e.b=some ((X6 e.l++e.rest).toArray,89))(i:∀e∈es,YP F e.l)(f:es.length=n)(ok:∀e∈es,e.Ok k)(h:es.map (λe=>e.l.map (·.2))=v):
  Qz F (some ⟨g,0,none⟩) n 1 ((es.map λe=>((⟨some ⟨e.b,0,none⟩,k,e.c⟩:Sr),e.l)).map λe=>e.1.v)/\QCd F (es.map λe=>((⟨some ⟨e.b,0,none⟩,k,e.c⟩:Sr),e.l))/\(es.map λe=>((⟨some ⟨e.b,0,none⟩,k,e.c⟩:Sr),e.l)).map (λe=>e.2.map (·.2))=v/\(es.map λe=>((⟨some ⟨e.b,0,none⟩,k,e.c⟩:Sr),e.l)).length=n/\n<=n:=by
 refine⟨?_,λx hx=>?_,by rw[bO];exact h,by rw[af,f],bm _⟩
 ·rw[bO];exact Qz.of d (by rw[af,f,Nat.mul_one])
 obtain⟨e,he,rfl⟩:=List.mem_map.1 hx;exact⟨Qz.pre (a e he) (by rw[Gj,(ok e he).hl]),i e he,rfl,(ok e he).hl,(ok e he).hc⟩
theorem Td{l:List Vy}{f:Nat->Rat×Rat}(h:l.map (·.2)=(ai n).map f)(hi:i<n):(el l i).2=f i:=by
 have a:l.length=n:=by have:=congrArg eY h;simpa using this
 have h1:el (l.map (·.2)) i=f i:=by rw[h,Z8 _ hi]
 rw[JB (by rw[af];omega),aA]at h1;rw[JB (show i<l.length by omega)];exact h1
theorem Uo{a:Tmp}{r:Loop}(h:kQ N m #[a] assign body r)(v1:Value)(h1:a<N):JH (df:=Hi) N ((a,v1)::m) (Sy r #[v1]):=by
 have e:Sy r #[v1]=(({ tmps:=r.tmps,defers:=[] }:Act).put (some a) v1):=by
  unfold Sy;rw[h.params];simp[Act.put]
 rw[e];exact h.QE4.put (d:=some a) (by simpa[Jx]using h1) v1
theorem jt{y:SyP}{x:Sp}{rs:List (List Tm)}{vs vb:List (Rat×Rat)}{t:Rat×Rat}{rb:Sr}{n:Nat}(hF:Fits F w)(hy:Ma F y rs vs)(hx:X9 F x t)(hb:ZV F rb lb vb)(hn:y.rt.n=rb.n)(hnb:rb.n<=1000)(hn0:0<rb.n)(hor:n<=999)(hpn:∀e∈y.ps,e.1.n<=100000)(hok:uF rs t vb n):
  QU prog 41 [.pointer (some ⟨y.b,0,none⟩),x.v,rb.v,.int .i64 (n:Int)] w F (λ(c:Sr×List BxL)=>c.1.v) (λc F=>Qz F c.1.q c.1.n 1 (c.2.map λe=>e.1.v)/\QCd F c.2/\c.2.map (λe=>e.2.map (·.2))=Jk rs t vb n/\c.2.length=c.1.n/\c.1.n<=c.1.cap):=by
 have hvb:=hb.P9;have hlb:=hb.len;have hrl:=hy.EC;have hpl0:=hy.len;dsimp only[Sr.v];refine QU.QBu (G:=λF=>Ma F y rs vs/\X9 F x t/\ZV F rb lb vb) func41 rfl wm rfl rfl hF (λF' hF'=>⟨hy.le hF',hx.le hF',hb.le hF'⟩)<|QNz<|Qv rfl (vs:=[_,_,_,_,_,_,_,_]) rfl λb5=>wQ rfl<|wR rfl<|QA (Qb rfl Xy)<|Gf (n:=rb.n) (bytes:=24) rfl rfl Ep Xg BP rfl QGp O O λbk=>wQ rfl<|QG<|wR rfl<|QA (Qb rfl Xy)<|QMu rfl<|QMt<|QQ<|Jf (ι:=TaJ vb) [(0,_),(2,_),(3,_),(5,_),(8,_),(9,_),(23,_),(24,_)] (λi=>[(25,.int .i64 ((i.i:Nat):Int))]) (λi=>(bk,.cells (i.es.map (VB.sl 1)++Jz [.slice none 0 0] (rb.n-i.i)).toArray 94 (0,0))::(b5,.cells (Zw x).toArray 89 (0,0))::i.M) (λi F=>∀e∈i.es,YP F e.l) (λi=>rb.n-i.i) (⟨0,[],[],rfl,aq _,rfl,(λ_ h=>by cases h),rfl⟩) wZ wS QNG (λ_ _ _ h=>by cases h) λi=>?_
 have hi:=i.le;refine wA 6 I ?_;refine QP I (λhc=>?_) λhc=>?_
 ·have hlt:i.i<rb.n:=wg<|QOW hc
  refine QOn 7 I<|QA (Qs (n:=rb.n) i.i (λF h9=>h9.1.2.2.row) rfl rfl Xy JY O)<|QA (J0 (n:=rb.n) (vs:=[.int .i64 (el lb i.i).1.lo.n.s,.slice (el lb i.i).1.lo.n.q (el lb i.i).1.lo.n.n (el lb i.i).1.lo.n.cap,.int .i64 (el lb i.i).1.lo.d.s,.slice (el lb i.i).1.lo.d.q (el lb i.i).1.lo.d.n (el lb i.i).1.lo.d.cap,.int .i64 (el lb i.i).1.hi.n.s,.slice (el lb i.i).1.hi.n.q (el lb i.i).1.hi.n.n (el lb i.i).1.hi.n.cap,.int .i64 (el lb i.i).1.hi.d.s,.slice (el lb i.i).1.hi.d.q (el lb i.i).1.hi.d.n (el lb i.i).1.hi.d.cap]) ((i.i)*8) (λF h9=>h9.1.2.2.row) O rfl JY I λj v hv=>JX (f:=(λe=>Zw e.1)) (l:=lb) (λ_=>rfl) O hv)<|Qe Y4 λb11=>QMv I<|QV (vs:=[_,_,_,_,_,_,_,_]) I I I JY I .here .h8 wZ<|QOm 5 I<|QA (wK I JY .here)<|KK I (Jc Xy) JY Y4 I I λb33=>QA (Ql (i:=i.i) rfl rfl Ep Xg O)<|QA (QH I ZO XG)<|QV (vs:=[.slice (some ⟨b33,0,none⟩) 1 1]) I I I XG I .u2 (xu (by rw[af,i.len]) O) wS<|QE<|Qf<|QD<|QB<|QA (Qk I I O)<|wB 2 I<|FV (List.perm_append_singleton _ _).symm ?_
  exact Qh (⟨i.i+1,i.es++[⟨b33,1,[(( el lb i.i).1,el vb i.i)],[]⟩],i.M++[_],by rw[i.hM,ak];rfl,O,by rw[aE,i.len];rfl,λe he=>by
     rcases List.mem_append.1 he with he | he
     ·exact i.ok e he
     ·rw[List.mem_singleton.1 he];exact⟨rfl,rfl,bm _,by show 1<=maxLen;decide⟩,by rw[ak,i.hq,Zb (show i.i<vb.length by omega),ak];rfl⟩) (by show rb.n-(i.i+1)<rb.n-i.i;omega) wa (.cons _ (by rw[ak];exact bz _)) (λF ⟨⟨hY,hT,hB⟩,hE⟩=>⟨⟨hY,hT,hB⟩,λe he=>by
     rcases List.mem_append.1 he with he | he
     ·exact hE e he
     rw[List.mem_singleton.1 he];intro e2 he2;rw[List.mem_singleton.1 he2];exact hB.at hlt⟩)
 have hge:i.i=rb.n:=wg<|QOX hc
 refine Q7 ?_;refine wA 8 I<|FO (ι:=TkJ rs t vb n) (λg=>Y3 g.Ds) [(0,_),(2,_),(5,_),(8,_),(9,_),(37,_)] (λg=>[(38,.int .i64 ((g.k:Nat):Int))]) (λg=>(bk,.cells (g.es.map (VB.sl (g.k+1))).toArray 94 (0,0))::(b5,.cells (Zw x).toArray 89 (0,0))::(g.M++dfB g.Ds)) (λg F=>∀e∈g.es,YP F e.l) (λg=>n-g.k) (⟨0,i.es,i.M,[],i.hM,aq _,by rw[i.len];omega,i.ok,by rw[i.hq,hge,<-hvb,bw];rfl⟩) I wX wS ((by show List.Sublist (_::_::(i.M++[])) _;rw[bZ,show rb.n-i.i=0 by omega];simp only[Jz,bZ];exact bz _)) w8 λg=>?_
 letI:Df:=Y3 g.Ds;have hk:=g.le;have hlen2:=g.len;refine wA 6 I ?_;refine QP I (λhc=>?_) λhc=>?_
 ·have hk2:g.k<n:=wg<|QOW hc
  refine QOn 12 I<|QL I (λ_ _ f k=>f_g (n:=0) f wj wj) λc41=>QMu I<|Xv I (fb _) (Pj (x:=c41) (a:=((0:Int):Rat)) (n:=g.k) w8 O) λc43=>?_
  obtain⟨m,hl43,ok43,hv43,hob43⟩:=zG c43.hr O;rw[hv43,hob43];rw[eV];refine Qe BP (λb13=>QV (vs:=[_]) I I I Xg I .here .h1 wS<|QMt<|QNz<|QA (QH I ZO XG)<|QA (Qa I XG .here .h1)<|QA (wK I JY .u3)<|QA (Ql (i:=0) rfl rfl Xy JY O)<|QV (vs:=Zw x) rfl rfl rfl JY I .u1 (xw (i:=0) (by rw[ok43.hl];omega) x t) wZ<|QE<|QD ?_);refine P4 (ι:=List Vy) [(0,_),(2,_),(5,_),(8,_),(9,_),(12,_),(13,_),(37,_),(38,_)] (λlt=>[]) (λlt=>(b13,.cells [.slice (some ⟨m.b,0,none⟩) (g.k+1) m.c].toArray 94 (0,0))::(m.b,.cells (X6 lt++m.rest).toArray 89 (0,0))::(bk,.cells (g.es.map (VB.sl (g.k+1))).toArray 94 (0,0))::(b5,.cells (Zw x).toArray 89 (0,0))::(g.M++dfB g.Ds)) (λlt F=>YP F lt/\lt.map (·.2)=ZA t g.k/\lt.length=g.k+1) wa ?_ ?_
  ·refine wA 6 I ?_;refine QP I (λhc=>?_) λhc=>?_
   ·have hkp:0<g.k:=wg<|QOW hc
    refine JO (.cons_cons _ (.cons _ tC)) mixed wi<|QK (QH I ZO XG)<|QK (Qa I XG .here .h1)<|QZ I (λ_ _ f k=>f_g (n:=1) f wj wj) λc52=>QZ I (λ_ _ f k=>DS (x:=c52) (r:=((1:Int):Rat)) f k.2) λc53=>QK (Ql (i:=1) rfl rfl Xy JY O)<|Jg (vs:=Zw c53) rfl rfl rfl JY I .u1 tD (λ_ h=>h.1.1) (xw (i:=1) (by rw[bW,ok43.hl];omega) c53 (((1:Int):Rat),((1:Int):Rat))) wZ<|Qw ?_
    exact Xw ((m.l.set 0 (x,t)).set 1 (c53,(((1:Int):Rat),((1:Int):Rat)))) wa QNG λF ⟨⟨⟨⟨⟨⟨⟨hY,hT,hB⟩,hE⟩,K⟩,X⟩,U⟩,h52⟩,h53⟩=>⟨⟨⟨⟨⟨⟨hY,hT,hB⟩,hE⟩,K⟩,X⟩,U⟩,⟨YP.set (YP.set (by rw[hl43];exact U) hT) h53,by rw[eR,eR,hl43,c43.hl,Ti];exact pg t O,by rw[bW,bW,ok43.hl]⟩⟩
   have hkp:¬0<g.k:=wg<|QOX hc
   refine QN ?_;exact Xw (m.l.set 0 (x,t)) wa QNG λF ⟨⟨⟨⟨⟨hY,hT,hB⟩,hE⟩,K⟩,X⟩,U⟩=>⟨⟨⟨⟨⟨⟨hY,hT,hB⟩,hE⟩,K⟩,X⟩,U⟩,⟨YP.set (by rw[hl43];exact U) hT,by rw[eR,hl43,c43.hl,Ti,show g.k=0 by omega];exact y9 t,by rw[bW,ok43.hl]⟩⟩
  intro lt;refine XD _ (λ_ _ f h=>h.2.2) (λhlt2p=>?_);obtain⟨hltq,hlt2⟩:=hlt2p;refine wR I<|QA (Qb I Xy)<|Gf (n:=rb.n) (bytes:=128) rfl rfl Xy JY Y4 I SS O O λbn=>QOm 7 I<|QA (YC I)<|QA (QH I Ta Gg)<|QA (Gv (c:=#[y.rt.v,y.st.v]) (T':=131) rfl Gg (λF h9=>h9.1.1.1.1.1.1.ZH) rfl)<|QA (Qb I Nw)<|QOm 4 I<|FO (ι:=TrJ (nxQ rs t vb g.k) rb.n) (λE=>Y3 E.Ds) [(0,_),(2,_),(5,_),(8,_),(9,_),(12,_),(13,_),(14,_),(37,_),(38,_),(61,_),(62,_)] (λE=>[(63,.int .i64 ((E.i:Nat):Int))]) (λE=>(bn,.cells (X6 E.nx++Jz [.int .i64 0,.slice none 0 0,.int .i64 0,.slice none 0 0,.int .i64 0,.slice none 0 0,.int .i64 0,.slice none 0 0] (rb.n-E.i)).toArray 89 (0,0))::(b13,.cells [.slice (some ⟨m.b,0,none⟩) (g.k+1) m.c].toArray 94 (0,0))::(m.b,.cells (X6 lt++m.rest).toArray 89 (0,0))::(bk,.cells (g.es.map (VB.sl (g.k+1))).toArray 94 (0,0))::(b5,.cells (Zw x).toArray 89 (0,0))::(g.M++dfB E.Ds)) (λE F=>YP F E.nx) (λE=>rb.n-E.i) (⟨0,[],g.Ds,aq _,rfl,rfl⟩) I we wS QNG (λ_ _=>YP.nil _) λE=>?_
  letI:Df:=Y3 E.Ds;have hi3l:=E.le;refine wA 6 I ?_;refine QP I (λhc=>?_) λhc=>?_
  ·have hi3':E.i<y.rt.n:=wg<|QOW hc
   have hi3:E.i<rs.length:=O;have hem:=Qy (show E.i<y.ps.length by omega);obtain⟨pp,hpp⟩:∃pp,pp=el y.ps E.i:=⟨_,rfl⟩;have hpp1:=hpn _ hem;rw[<-hpp]at hpp1;have hall:(((⟨m.b,m.c,lt⟩:VL)::(g.es.map VB.vl)).map VL.q)=(ZA t g.k::Jk rs t vb g.k):=by rw[aw,bO];show lt.map (·.2)::g.es.map (λe=>e.l.map (·.2))=_;rw[hltq,g.hq]
   have hto:=hok.tm _ hk2 _ hi3;refine XD _ (λw F hF ⟨⟨⟨⟨⟨⟨⟨hY,hT,hB⟩,hE⟩,K⟩,X⟩,U⟩,hLT⟩,hN⟩=>fp (hY.at hi3').2 (hY.at hi3').1.2.2.2.2) (λhY2=>?_);rw[<-hpp]at hY2;have hpe:KP pp.2=el rs E.i:=hY2.1;have hpl2:pp.2.length=pp.1.n:=hY2.2;rw[<-hpe]at hto;refine QOn 7 I<|QA (Qs (n:=y.rt.n) (E.i) (λF h9=>h9.1.1.1.1.1.1.1.row) rfl rfl Nw Gi O)<|QA (Qu (n:=y.rt.n) ((E.i)*1) (λF h9=>h9.1.1.1.1.1.1.1.row) O rfl Gi (X0 (f:=λe:Px=>e.1.v) (l:=y.ps) O))<|QOm 6 I<|QL I (λ_ _ f k=>f_g (n:=0) f wj wj) λc68=>QMu I<|QL I (λ_ _ f h=>Ph (x:=c68) (a:=((0:Int):Rat)) (n:=g.k) f h.2 O) λc70=>Qe BP λb17=>QV (vs:=[_]) I I I Xg I .here .h1 wS<|QOm 7 I<|QA (QR (vs:=[_]) I Xg .u2 .h1 rfl)<|QMu I<|QL I (λ_ _ f h=>vi (p:=el y.ps E.i) (n:=g.k) (v1:=.slice (some ⟨m.b,0,none⟩) (g.k+1) m.c) (v2:=.slice (some ⟨bk,0,none⟩) rb.n rb.n) f ⟨rfl,rfl⟩ ⟨rfl,rfl⟩) λc75=>QMt<|QQ<|QCW (λG hG=>?_)
   have hlsl:(g.es.map VB.vl).length=rb.n:=by rw[af];omega
   have hfacts:∀F,G F->(F c75.1=some (#[pp.1.v],120)/\F c75.2.1=some (#[.int .i64 (g.k:Int)],3)/\F c75.2.2.1=some (#[.slice (some ⟨m.b,0,none⟩) (g.k+1) m.c],94)/\F c75.2.2.2=some (#[.slice (some ⟨bk,0,none⟩) (g.es.map VB.vl).length rb.n],79))/\Ws F pp.1 pp.2 (KP pp.2)/\∀e∈(⟨m.b,m.c,lt⟩:VL)::g.es.map VB.vl,YP F e.l:=λF h=>by
    obtain⟨⟨⟨⟨⟨⟨⟨⟨⟨⟨hY,hT,hB⟩,hE⟩,K⟩,X⟩,U⟩,hLT⟩,hN⟩,h68⟩,h70⟩,h75⟩:=hG F h;rw[hpp,hlsl];exact⟨h75,(hY.at hi3').1,λe he=>by
     rcases List.mem_cons.1 he with rfl | he
     ·exact hLT.1
     obtain⟨e',he',rfl⟩:=List.mem_map.1 he;exact K e' he'⟩
   have h70f:∀F,G F->ZV F c70.1 c70.2 (WT 0 g.k):=λF h=>by obtain⟨⟨⟨⟨⟨⟨⟨⟨⟨⟨hY,hT,hB⟩,hE⟩,K⟩,X⟩,U⟩,hLT⟩,hN⟩,h68⟩,h70⟩,h75⟩:=hG F h;exact h70
   refine Tz (Ds:=E.Ds) (ι:=TsS pp.2.length) (λs=>(b17,.cells [.slice s.y.1.q s.y.1.n s.y.1.cap].toArray 94 (0,0))::(bn,.cells (X6 E.nx++Jz [.int .i64 0,.slice none 0 0,.int .i64 0,.slice none 0 0,.int .i64 0,.slice none 0 0,.int .i64 0,.slice none 0 0] (rb.n-E.i)).toArray 89 (0,0))::(b13,.cells [.slice (some ⟨m.b,0,none⟩) (g.k+1) m.c].toArray 94 (0,0))::(m.b,.cells (X6 lt++m.rest).toArray 89 (0,0))::(bk,.cells (g.es.map (VB.sl (g.k+1))).toArray 94 (0,0))::(b5,.cells (Zw x).toArray 89 (0,0))::(g.M++dfB E.Ds)) (λs F=>ZV F s.y.1 s.y.2 (Z6 ((KP pp.2).take s.i) (ZA t g.k::Jk rs t vb g.k) g.k)) (λs=>s.i=pp.2.length) rfl rfl (enters_of func168 wm rfl) (λL D r W Y hW=>?_) λD s hs=>?_
   ·have hterms:=jr (ι:=TsS pp.2.length) (w0:=w) (F0:=F) (B:=λs=>(L,.loop r)::(D,.deferred (some []))::(b17,.cells [.slice s.y.1.q s.y.1.n s.y.1.cap].toArray 94 (0,0))::(bn,.cells (X6 E.nx++Jz [.int .i64 0,.slice none 0 0,.int .i64 0,.slice none 0 0,.int .i64 0,.slice none 0 0,.int .i64 0,.slice none 0 0] (rb.n-E.i)).toArray 89 (0,0))::(b13,.cells [.slice (some ⟨m.b,0,none⟩) (g.k+1) m.c].toArray 94 (0,0))::(m.b,.cells (X6 lt++m.rest).toArray 89 (0,0))::(bk,.cells (g.es.map (VB.sl (g.k+1))).toArray 94 (0,0))::(b5,.cells (Zw x).toArray 89 (0,0))::(g.M++dfB E.Ds)) (H:=λs F=>G F/\ZV F s.y.1 s.y.2 (Z6 ((KP pp.2).take s.i) (ZA t g.k::Jk rs t vb g.k) g.k)) (pos:=λs=>s.i) (p:=pp) (b1:=c75.1) (b2:=c75.2.1) (b3:=c75.2.2.1) (b4:=c75.2.2.2) (L:=L) (n:=g.k) (bv:=bk) (cv:=rb.n) (e0:=(⟨m.b,m.c,lt⟩:VL)) (ls:=(g.es.map VB.vl))
     (λs F h=>hfacts F h.1) hpl2 O O (by rw[af];omega)
     (λs e he=>by
      rcases List.mem_cons.1 he with rfl | he
      ·exact⟨⟨m.rest,wu⟩,hlt2,ok43.hc⟩
      obtain⟨e',he',rfl⟩:=List.mem_map.1 he;exact⟨⟨e'.rest,by rw[g.hM];simp only[bA,bK];exact .inr (.inr (.inr (.inr (.inr (.inr (.inr (.inr (.inl (aQ (f:=VB.box) he')))))))))⟩,(g.ok _ he').hl,(g.ok _ he').hc⟩)
     (λs=>by rw[bO];simp only[bA];exact .inr (.inr (.inr (.inr (.inr (.inr (.inl rfl)))))))
     (by rw[hall];exact hto)
     (λG' C s i y W hi hp hst=>?_) ⟨0,c70,aq _⟩ rfl
    ·refine(hterms.2 W (hW.GW λF h=>⟨h,by rw[aY];exact(h70f F h)⟩)).mono ?_;rintro e w' ⟨c,rfl,h⟩;exact⟨⟨_,rfl⟩,c.1,c.2,h⟩
    letI:Df:=Hi;obtain rfl:s.i=i:=hp;rw[hall]at hst;refine Fx hst .here (by rw[Y.params];rfl) (Uo Y _ wj) ?_;rw[Y.assign,Y.body];refine Sc (Bb L) (λ⟨_,_,h⟩=>h) rfl<|Qe BP λb18=>QV (vs:=[.slice y.1.q y.1.n y.1.cap]) I I I Xg I .here .h1 wS<|QE<|uN .u1 Y.state<|kV<|Sc (Bb L) (λ⟨_,_,h⟩=>h) rfl<|QA (QR (vs:=[_]) I Xg .u3 .h1 rfl)<|QA (QR (vs:=[_]) I Xg .here .h1 rfl) ?_
    have hit:s.i<(KP pp.2).length:=by rw[GY];exact hi
    refine QL I (λ_ _ f h=>QBL (ra:=s.y.1) (rb:=y.1) (la:=s.y.2) (lb:=y.2) f h.1.2.2 h.2 (by rw[<-h.1.2.2.P9,<-h.2.P9,ZD,X1];omega) (by rw[<-h.1.2.2.P9,ZD];omega) (by rw[hpe];exact hok.sm _ hk2 _ hi3 s.i) λx hx=>hok.mn _ hk2 _ hi3 _ (by rw[<-hpe];exact aQ (Qy hi)) x (by have e:=ZM rs t vb g.k;rw[eD,e]at hx;exact hx)) (λc79=>QV (vs:=[.slice c79.1.q c79.1.n c79.1.cap]) I I I Xg I .u3 .h1 wS<|QE<|Qf ?_);refine uL .u1 (λw1 hw1=>⟨rfl,⟨s.i+1,c79,by show s.i+1<=_;omega⟩,rfl,?_⟩);rw[IM Y]at hw1;exact St.imp hw1 (.cons _ QNG) λF h=>⟨h.1.1.1,h.1.1.2.1,by show ZV F c79.1 c79.2 (Z6 ((KP pp.2).take (s.i+1)) _ _);rw[BX (by rw[GY];omega),<-QAt hi];exact h.2⟩
   letI:Df:=Y3 (D::E.Ds);have hsum:∀F,ZV F s.y.1 s.y.2 (Z6 ((KP pp.2).take s.i) (ZA t g.k::Jk rs t vb g.k) g.k)->ZV F s.y.1 s.y.2 (Z6 (el rs E.i) (ZA t g.k::Jk rs t vb g.k) g.k):=λF h=>by
    rw[bF (by rw[GY];omega),hpe]at h;exact h
   refine Qf<|QD<|XD _ (λ_ _ f h=>fp (hsum _ h.2).P9 (hsum _ h.2).len) λhsv=>?_
   obtain⟨hsv,hsl2⟩:=hsv;rw[ZD]at hsv;have hsl:g.k<s.y.1.n:=O;refine Jq 13 (.cons_cons _ (.cons_cons _ (.cons _ (.cons_cons _ (.cons_cons _ (.cons_cons _ (.cons_cons _ tA))))))) mixed wi wi ?_;simp only[aM,aY,aR,aZ];refine QK (QC I)<|QK (QC I)<|QK (QH I ZO XG)<|QK (Qa I XG .u1 .h1)<|QK (QC I)<|QK (Qs (n:=s.y.1.n) (g.k) (λF h9=>(hsum _ h9.2).row) rfl rfl Xy JY O)<|QK (J0 (n:=s.y.1.n) (vs:=[.int .i64 (el s.y.2 (g.k)).1.lo.n.s,.slice (el s.y.2 (g.k)).1.lo.n.q (el s.y.2 (g.k)).1.lo.n.n (el s.y.2 (g.k)).1.lo.n.cap,.int .i64 (el s.y.2 (g.k)).1.lo.d.s,.slice (el s.y.2 (g.k)).1.lo.d.q (el s.y.2 (g.k)).1.lo.d.n (el s.y.2 (g.k)).1.lo.d.cap,.int .i64 (el s.y.2 (g.k)).1.hi.n.s,.slice (el s.y.2 (g.k)).1.hi.n.q (el s.y.2 (g.k)).1.hi.n.n (el s.y.2 (g.k)).1.hi.n.cap,.int .i64 (el s.y.2 (g.k)).1.hi.d.s,.slice (el s.y.2 (g.k)).1.hi.d.q (el s.y.2 (g.k)).1.hi.d.n (el s.y.2 (g.k)).1.hi.d.cap]) ((g.k)*8) (λF h9=>(hsum _ h9.2).row) O rfl JY I λj v hv=>JX (f:=(λe=>Zw e.1)) (l:=s.y.2) (λ_=>rfl) O hv)<|QK (QC I)<|QK (Qk I I O)<|QZ I (λ_ _ f h=>f_g (n:=((g.k+1:Nat):Int)) f O O) λc89=>QZ I (λ_ _ f h=>yS (x:=c89) (r:=(((g.k+1:Nat):Int):Rat)) f h.2 (by show((g.k+1:Nat):Int)≠0;omega) (by have h1:=FY ((g.k+1:Nat):Int);have h2:sz ((g.k+1:Nat):Int)<=40:=(J3 _ 40).2 O;omega)) λc90=>QZ I (λ_ _ f h=>yb (x:=(el s.y.2 g.k).1) (y:=c90) (a:=el (Z6 (el rs E.i) (ZA t g.k::Jk rs t vb g.k) g.k) g.k) (r:=(((g.k+1:Nat):Int):Rat)⁻¹) f ((hsum _ h.1.1.2).at hsl) h.2 (hok.cf _ hk2 _ hi3) (ay (LW (by show((g.k+1:Nat):Int)≠0;omega)) (by have h1:=FY ((g.k+1:Nat):Int);have h2:sz ((g.k+1:Nat):Int)<=40:=(J3 _ 40).2 O;omega))) λc91=>QK (Ql (i:=E.i) rfl rfl Xy JY O)<|Zf<|QV (vs:=Zw c91) rfl rfl rfl JY I .u2 (QBH (z:=[.int .i64 0,.slice none 0 0,.int .i64 0,.slice none 0 0,.int .i64 0,.slice none 0 0,.int .i64 0,.slice none 0 0]) c91 (nxQ rs t vb g.k E.i) rfl E.len O) wZ<|QE<|Qf<|QD<|QB<|QA (Qk I I O)<|wB 2 I<|FV (.trans (.swap _ _ _) (.cons _ (ED [_,_,_,_,_] g.M _ _))) ?_
   exact FW (⟨E.i+1,E.nx++[(c91,nxQ rs t vb g.k E.i)],D::E.Ds,O,by rw[aE,E.len];rfl,by rw[ak,E.hv,aC,ak];rfl⟩) I (by show rb.n-(E.i+1)<rb.n-E.i;omega) ⟨rfl,rfl,rfl,rfl,rfl,rfl,rfl,rfl,rfl,rfl,rfl,rfl,rfl,trivial⟩ (.cons _ QNG) λF ⟨⟨⟨⟨hG0,hS⟩,h89⟩,h90⟩,h91⟩=>by obtain⟨⟨⟨⟨⟨⟨⟨⟨⟨⟨hY,hT,hB⟩,hE⟩,K⟩,X⟩,U⟩,hLT⟩,hN⟩,h68⟩,h70⟩,h75⟩:=hG F hG0;exact⟨⟨⟨⟨⟨⟨⟨hY,hT,hB⟩,hE⟩,K⟩,X⟩,U⟩,hLT⟩,YP.snoc hN h91⟩
  have hge3:E.i=rb.n:=wg<|QOX hc
  refine Q7 ?_;refine wR I<|QA (Qb I Ep)<|QOm 4 I<|Jf (ι:=TeJ g.es g.k (nxQ rs t vb g.k)) [(0,_),(2,_),(5,_),(8,_),(9,_),(14,_),(37,_),(38,_),(95,_)] (λo=>[(96,.int .i64 ((o.i:Nat):Int))]) (λo=>(bn,.cells (X6 E.nx++Jz [.int .i64 0,.slice none 0 0,.int .i64 0,.slice none 0 0,.int .i64 0,.slice none 0 0,.int .i64 0,.slice none 0 0] (rb.n-E.i)).toArray 89 (0,0))::(b13,.cells [.slice (some ⟨m.b,0,none⟩) (g.k+1) m.c].toArray 94 (0,0))::(m.b,.cells (X6 lt++m.rest).toArray 89 (0,0))::(bk,.cells (o.e1.map (VB.sl (g.k+2))++(g.es.drop o.i).map (VB.sl (g.k+1))).toArray 94 (0,0))::(b5,.cells (Zw x).toArray 89 (0,0))::(o.M1++(o.M2++dfB E.Ds))) (λo F=>∀e∈o.e1,YP F e.l) (λo=>rb.n-o.i) (⟨0,[],[],g.M,rfl,by rw[g.hM];rfl,aq _,rfl,(λ_ h=>by cases h),rfl⟩) wa wS QNG (λ_ _ _ h=>by cases h) λo=>?_
  have hi4l:=o.le;refine wA 6 I ?_;refine QP I (λhc=>?_) λhc=>?_
  ·have hlt4:o.i<rb.n:=wg<|QOW hc
   have hnx:=E.len;obtain⟨e4,he4⟩:∃e4,el g.es o.i=e4:=⟨_,rfl⟩;have hm4:=Qy (show o.i<g.es.length by omega);have ok4:e4.Ok (g.k+1):=by rw[<-he4];exact g.ok _ hm4
   have hd4:g.es.drop o.i=e4::g.es.drop (o.i+1):=by rw[Mz (show o.i<g.es.length by omega),he4]
   have hnx2:(el E.nx o.i).2=nxQ rs t vb g.k o.i:=Td E.hv O;have hM4:o.M2=e4.box::(g.es.drop (o.i+1)).map VB.box:=by rw[o.hM2,hd4];rfl
   refine qV (by rw[hM4])<|QOn 10 I<|Jq 15 (.cons_cons _ (.cons_cons _ (.cons_cons _ (.cons_cons _ (.cons_cons _ tA))))) mixed wi wi ?_
   simp only[aM,aY,aR,aZ];refine QK (QC I)<|QK (QC I)<|QK (QC I)<|QK (QC I)<|QK (Ql (i:=o.i) rfl rfl Ep Xg O)<|QK (QH I ZO XG)<|QK (YI (v:=.slice (some ⟨e4.b,0,none⟩) (g.k+1) e4.c) rfl XG .u3 (by rw[show 0+o.i*1+0=(o.e1.map (VB.sl (g.k+2))).length by rw[af,o.len];omega,hd4,aw];simp))<|QK (QC I)<|QK (QC I)<|QK (Ql (i:=o.i) rfl rfl Xy JY O)<|QK (DR (vs:=Zw (el E.nx o.i).1) rfl JY .here rfl λj v hv=>zK O hv) ?_
   refine JK I (Jc Xy) JY Y4 I I (λb110=>?_) (λw h=>h.imp (.cons_cons _ (.cons_cons _ (.cons_cons _ (.cons_cons _ (.cons_cons _ tA))))) w6);refine FT (ED [_,_,_,_,_] o.M1 _ _).symm ?_;refine V1 (ob:=[e4.box]) (n:=g.k+1) (k:=1) (sz:=8) (news:=Zw (el E.nx o.i).1) rfl rfl Xy JY Y4 I SS ok4.own (Src.row (off:=0) w8 (λj q hq=>by rw[aH];rw[List.getElem?_toArray];exact hq) rfl) O O (Gk _) (.cons_cons _ (.cons_cons _ (.cons_cons _ (.cons_cons _ (.cons_cons _ tA))))) w7 (λv111 ob111 hr111=>?_);obtain⟨e5,hl5,ok5,hv5,hob5⟩:=zG (l:=e4.l++[el E.nx o.i]) (by rw[D8];exact hr111) O;rw[hv5,hob5,eV];refine FT (ED [_,_,_,_,_] o.M1 _ _)<|QK (Ql (i:=o.i) rfl rfl Ep Xg O)<|QK (QH I ZO XG)<|Zf ?_
   rw[hd4,aw];refine QV (vs:=[.slice (some ⟨e5.b,0,none⟩) (g.k+2) e5.c]) I I I XG I .u3 (QBG (by rw[af,o.len])) wS<|QE<|Qf<|QD<|QB<|QA (Qk I I O)<|wB 2 I ?_
   exact Qh (⟨o.i+1,o.e1++[e5],o.M1++[e5.box],(g.es.drop (o.i+1)).map VB.box,by rw[o.hM1,ak];rfl,rfl,O,by rw[aE,o.len];rfl,λe he=>by
      rcases List.mem_append.1 he with he | he
      ·exact o.ok e he
      ·rw[List.mem_singleton.1 he];exact ok5,by rw[ak,o.hq,aC,ak];simp only[aw,ey,hl5,ak,he4,hnx2]⟩) (by show rb.n-(o.i+1)<rb.n-o.i;omega) wb ((by simp only[ak,ao,aw,ey,bV,bJ];exact bz _)) (λF ⟨⟨⟨⟨⟨⟨⟨⟨⟨hY,hT,hB⟩,hE⟩,K⟩,X⟩,U⟩,hLT⟩,hN⟩,hE4⟩,hs110⟩=>⟨⟨⟨⟨⟨⟨⟨⟨hY,hT,hB⟩,hE⟩,K⟩,X⟩,U⟩,hLT⟩,hN⟩,λe he=>by
      rcases List.mem_append.1 he with he | he
      ·exact hE4 e he
      rw[List.mem_singleton.1 he,hl5];intro e2 he2;rcases List.mem_append.1 he2 with he2 | he2
      ·exact K _ hm4 e2 (by rw[he4];exact he2)
      rw[List.mem_singleton.1 he2];exact hN _ (Qy O)⟩)
  have hge4:o.i=rb.n:=wg<|QOX hc
  refine Q7 ?_;refine QB<|QA (Qk I I O)<|wB 2 I ?_
  have hdn:g.es.drop o.i=[]:=bI O;have hM0:o.M2=[]:=by rw[o.hM2,hdn];rfl
  have hq4:o.e1.map (λe=>e.l.map (·.2))=Jk rs t vb (g.k+1):=by
   have e1:=o.hq;rw[hge4,<-hvb]at e1;rw[e1];refine e9 λj hj=>?_;have hj:=List.mem_range.1 hj;have hel:el (Jk rs t vb g.k) j=(el g.es j).l.map (·.2):=by rw[<-g.hq,JB (show j<(g.es.map λe=>e.l.map (·.2)).length by rw[af];omega),aA,<-JB (show j<g.es.length by omega)]
   show(el g.es j).l.map (·.2)++[nxQ rs t vb g.k j]=el (Jk rs t vb g.k) j++[nxQ rs t vb g.k j];rw[hel]
  exact FW (⟨g.k+1,o.e1,o.M1,E.Ds,o.hM1,hk2,by rw[o.len];omega,o.ok,hq4⟩) I (by show n-(g.k+1)<n-g.k;omega) wY (.cons _ (.cons _ (.cons _ (by rw[hdn,hM0,ey,bZ,bJ];exact bz _)))) λF ⟨⟨⟨⟨⟨⟨⟨⟨hY,hT,hB⟩,hE⟩,K⟩,X⟩,U⟩,hLT⟩,hN⟩,hE4⟩=>⟨⟨⟨hY,hT,hB⟩,hE⟩,hE4⟩
 have hge2:g.k=n:=wg<|QOX hc
 refine Q7 ?_;refine wA 7 I ?_;rw[g.hM];refine FV (ax (l₁:=_::_::g.es.map VB.box))<|uM g.Ds I<|QAg (λw1 h1=>(St.freeze (pre:=[]) (St.cj (bs:=[_,_]) g.es h1)).imp tA w6) ?_
 exact QO ((⟨some ⟨bk,0,none⟩,rb.n,rb.n⟩,g.es.map λe=>(⟨some ⟨e.b,0,none⟩,g.k+1,e.c⟩,e.l))) I (wN I) (rfl) λF h9=>QAn (n:=rb.n) h9.2 h9.1.2 h9.1.1.2 O g.ok (by have e:=g.hq;rw[hge2]at e;exact e)
theorem kE{ls:List BxL}{a:List (List (Rat×Rat))}(h:QCd F ls)(b:ls.map (λe=>e.2.map (·.2))=a)(hi:i<ls.length):ZV F (el ls i).1 (el ls i).2 (el a i):=by
 have h1:=h _ (Qy hi);rw[<-b,JB (show i<(ls.map λe=>e.2.map (·.2)).length by rw[af];exact hi),aA,<-JB hi];exact h1
structure qd(F:Gs)(r:Sr)(l:List (List UInt8×List UInt8)):Prop where
 row:Qz F r.q r.n 2 (l.flatMap D0)
 len:l.length=r.n
theorem qd.le{r:Sr}{l:List (List UInt8×List UInt8)}(h:qd F r l)(k:Gs.le F F'):qd F' r l:=⟨h.row.le k,h.len⟩
instance{r:Sr}{l:List (List UInt8×List UInt8)}: Up (λF=>qd F r l):=⟨λk h=>qd.le h k⟩
structure BxT(r:Sr)(l:List (List UInt8×List UInt8)):Prop where
 n:r.n<=1000000
 t:∀s∈l,s.1.length<=1000000/\s.2.length<=1000000
def M6(n:Nat)(l:List (List UInt8×List UInt8)):Int:=if l.length≠n then 2 else Qn (l.map λs=>XF s.1 s.2)
def Uy(o:Int):Int:=if(decide (o<1)||decide (o>16))=true then 3 else 0
theorem To{o:Int}(b:Fits F w):QX prog 39 [.int .i64 o] w F (.int .i64 (Uy o)):=by
 refine QU.go (G:=λF=>True) func39 b trivial ?_;refine wA 10 I ?_;refine QY (t:=5) rfl (λa=>?_) λa=>?_
 ·refine wB 3 I<|QL I (λ_ _ f k=>OA f ) λ_=>wQ I<|QW ?_
  exact QO2 I I (congrArg (ah .i64) (by unfold Uy;rw[a];rfl)) wy
 refine wB 5 I<|QL I (λ_ _ f k=>OA f ) λ_=>wQ I<|QW ?_
 exact QO2 I I (congrArg (ah .i64) (by unfold Uy;rw[a];rfl)) wy
theorem LB{r:Sr}{l:List (List UInt8×List UInt8)}(o:Fits F w)(h:JU F)(hy:KM F y)(hb:qd F r l)(hc:BxT r l):QX prog 38 [y.v,r.v] w F (.int .i64 (M6 y.nm.n l)):=by
 have z:=hb.len;have x:=hc.n;refine QU.go (G:=λF=>JU F/\KM F y/\qd F r l) func38 o ⟨h,hy,hb⟩ ?_;refine QNz<|Qv I (vs:=[_,_,_]) I λb2=>QOm 7 I<|QA (Qb I ZG)<|QA (QH I G6 Ks)<|QA (Qa I Ks .here .h1)<|QA (Qb I Kt)<|QOm 3 I ?_
 refine QP I (λa=>?_) λa=>?_
 ·have m:=bne_iff_ne.1 a;refine wA 6 I ?_;exact QO2 I I (congrArg (ah .i64) (by unfold M6;rw[if_pos O])) wy
 have m:=bne_eq_false_iff_eq.1 a;refine QOn 6 I<|QA (Qb I ZG)<|QOm 4 I<|J2 (ι:=X3 l λs=>XF s.1 s.2) [(14,_),(15,_)] (λi=>[(16,.int .i64 ((i.i:Nat):Int))]) (λi=>l.length-i.i) (X3.start _ _) wT wS λi=>?_
 have hi:=i.le;refine wA 6 I ?_;refine QP I (λa=>?_) λa=>?_
 ·have b:i.i<l.length:=wg<|QOW a
  have g:=Qy b;refine QOn 6 I<|QA (Qs (n:=r.n) i.i (λF h9=>h9.2.2.row) rfl rfl ZG Xb O)<|QA (J0 (n:=r.n) (vs:=[tx (el l i.i).1,tx (el l i.i).2]) ((i.i)*2) (λF h9=>h9.2.2.row) O rfl Xb I λj v hv=>JX (f:=D0) (l:=l) Yy O hv)<|Qe Mh λE=>QV (vs:=[_,_]) I I I Xb I .here .h2 wT<|QMt<|QNz<|QA (wH I Xb .here)<|QL I (λ_ _ f k=>HK f k.1 (hc.t _ g)) λ_=>QOm 9 I ?_
  refine QP I (λa=>?_) λa=>?_
  ·have c:=bne_iff_ne.1 a;refine wA 6 I<|X4 ?_
   exact QO2 I I (congrArg (ah .i64) (by unfold M6;rw[if_neg O];exact i.hit b c)) wy
  have c:=bne_eq_false_iff_eq.1 a;refine QN<|Qf<|QD<|QB<|QA (Qk I I O)<|wB 2 I ?_
  exact Qh (i.next b c) (by show l.length-(i.i+1)<l.length-i.i;omega) wU ((fN _ QNG)) w7
 have d:l.length<=i.i:=wg<|QOX a
 refine Q7 ?_;refine wA 6 I ?_;exact QO2 I I (congrArg (ah .i64) (by unfold M6;rw[if_neg O];exact i.stop d)) wy
def YA.rs(y:YA):List (List Tm):=y.rl.map λe=>Hs (VJ e.2)
def YA.vs(y:YA):List (Rat×Rat):=y.sl.map Jp
structure jF(y:YA):Prop where
 n0:1<=y.nm.n
 n1:y.nm.n<=24
 rn:y.rt.n=y.nm.n
 sn:y.st.n=y.nm.n
 nm:Bf y.nl=0
 pl:∀e∈y.rl,Bv (VJ e.2) (y.nm.n:Int)
 st:∀s∈y.sl,XF s.1 s.2=0
theorem Xt(h:Qn l=0):∀x∈l,x=0:=by
 induction l with
 |nil=>intro x hx;cases hx
 |cons a l ih =>
  intro x hx;unfold Qn at h;by_cases g:a=0
  ·rw[if_pos g]at h;rcases List.mem_cons.1 hx with rfl | hx
   ·exact g
   exact ih h x hx
  rw[if_neg g]at h;exact absurd h g
theorem TY{a b c:Int}(h:Qn [a,b,c]=0):a=0/\b=0/\c=0:=⟨Xt h a (.head _),Xt h b (.tail _ (.head _)),Xt h c (.tail _ (.tail _ (.head _)))⟩
theorem Aj(h:∀x∈l,x=0):Qn l=0:=by
 induction l with
 |nil=>rfl
 |cons a l ih=>unfold Qn;rw[if_pos (h a wu)];exact ih λx hx=>h x (by simp[hx])
theorem KM.ok(h:KM F y)(he:y.e=0):jF y:=by
 have h1:=h.kq;have h2:=h.EC;have h3:=h.Sq;unfold YA.e at he;by_cases h0:BW y.nl.length (y.rl.map λe=>VJ e.2).length y.sl.length=0
 ·rw[IB h0]at he;obtain⟨g,f,c,d⟩:=Sn h0;rw[af]at c;obtain⟨b,a,z3⟩:=TY he;refine⟨O,O,O,O,b,λe hm=>?_,λs hm=>?_⟩
  ·have h5:=Xt a _ (aQ (aQ hm));rw[h1]at h5;exact Rc h5
  exact Xt z3 _ (aQ hm)
 rw[jz h0]at he;exact absurd he h0
structure RdJ(y:YA) where
 i:Nat
 v:Value
 ob:List (Nat×Obj)
 ps:List Px
 le:i<=y.rl.length
 hr:Q2 120 1 v i (ps.map λe=>e.1.v) ob
 hq:qk ps=y.rs.take i
theorem RdJ.len(s:RdJ y):s.ps.length=s.i:=by
 have h:=congrArg eY s.hq;have h2:=s.le;unfold qk YA.rs at h;rw[af,bU,af]at h;omega
theorem Lo(h:i<y.rl.length):y.rs.take (i+1)=y.rs.take i++[Hs (VJ (el y.rl i).2)]:=by
 unfold YA.rs;rw[Zb (by rw[af];exact h)];congr 2;rw[JB (by rw[af];exact h),aA,JB h]
theorem LG.snoc{ps:List Px}{c:Px}{p:List Tm}(h:LG F ps)(k:Ws F c.1 c.2 p):LG F (ps++[c]):=λe he=>by
 rcases List.mem_append.1 he with he | he
 ·exact h e he
 rw[List.mem_singleton.1 he,show KP c.2=p from k.2.2.1];exact k
theorem S1(hF:Fits F w)(x:JU F)(hy:KM F y)(ht:Sg y)(K:jF y):QU prog 40 [y.v] w F (λ(c:SyP)=>.pointer (some ⟨c.b,0,none⟩)) (λc F=>Ma F c y.rs y.vs):=by
 have hrl:=hy.EC;have hsl:=hy.Sq;have hn1:=K.n1;have m:=K.rn;have hsn:=K.sn;refine QU.go (G:=λF=>JU F/\KM F y) func40 hF ⟨x,hy⟩ ?_;refine QNz<|Qv rfl (vs:=[_,_,_]) rfl λb1=>wQ rfl<|QNz<|QA (QH rfl Vv ZF)<|QA (Qa rfl ZF .here (.skip (.skip .h1)))<|QL rfl (λ_ _ f k=>Am f k.1 k.2.st hsl O λs hs=>⟨K.st s hs,ht.st s hs⟩) λL=>QA (XM rfl QBM QEq (.cons (vs:=[_]) rfl rfl rfl (.skip .h1) .nil))<|Qv rfl (vs:=[_,_]) rfl λz=>wQ rfl<|QG<|QNz<|QA (QH rfl WO YQ)<|QA (Qa rfl YQ .u1 (.skip .h1))<|QA (Qb rfl WY)<|QMu rfl<|QMt<|QQ<|Jf (ι:=RdJ y) [(3,_),(12,_),(13,_)] (λi=>[(14,.int .i64 ((i.i:Nat):Int))]) (λi=>(z,.cells #[i.v,.slice L.1.q L.1.n L.1.cap] 131 (0,0))::i.ob) (λi F=>LG F i.ps) (λi=>y.rl.length-i.i) (⟨0,.slice none 0 0,[],[],aq _,.nil,rfl⟩) wU wS (tB) (λ_ _ _ h=>by cases h) λi=>?_
 have hi:=i.le;refine wA 6 I ?_;refine QP I (λhc=>?_) λhc=>?_
 ·have o:i.i<y.rl.length:=wg<|QOW hc
  have d:=Qy o;refine QOn 6 I<|QA (Qs (n:=y.rt.n) i.i (λF h9=>h9.1.1.2.rt) rfl rfl WY GI O)<|QA (Qu (n:=y.rt.n) ((i.i)*1) (λF h9=>h9.1.1.2.rt) O rfl GI (X0 (f:=λe:UM=>e.1.v) (l:=y.rl) O))<|wQ I<|Jq 11 tB mixed wi wi ?_
  simp only[aM,aY,aR,aZ];refine QK (QC I)<|QK (QC I)<|QK (YC I)<|QK (QH I Ta Gg)<|QK (Qa I Gg .here .h1)<|QK (QC I)<|QZ I (λ_ _ f k=>Lu f k.1.1.1 (k.1.1.2.pl _ d).1 (k.1.1.2.pl _ d).2 (ht.tm _ d) (K.pl _ d) O) λU=>KL _ (λ_ _ f h=>h.2.2.2.1) λe24=>?_
  refine JK I (Jc Nw) Gi LR I I (λb25=>?_) (λw h=>h.imp tB w7);refine VG (ax (l₁:=[_])) ?_;refine V1 (n:=i.i) (k:=1) (sz:=1) (news:=[U.1.v]) I I Nw Gi LR I kD i.hr (Src.row (off:=0) w8 (λj q hq=>by rw[aH];rw[List.getElem?_toArray];exact hq) rfl) O O (λv hv=>by rw[List.mem_singleton.1 hv];rfl) QNG (λ_ h=>h.1.1) (λE H a=>?_);refine VG (ax (l₂:=[_]))<|QK (YC I)<|QK (QH I Ta Gg)<|Zf<|QV (vs:=[E]) I I a.one.2 Gg I .here .h1 ⟨a.one.1,trivial⟩<|QE<|Qf<|QD<|QB<|QA (Qk I I O)<|wB 2 I ?_
  exact Qh (⟨i.i+1,E,H,i.ps++[U],o,by rw[ak];exact a,by unfold qk;rw[ak,Lo o,<-e24];exact congrArg (·++_) i.hq⟩) (by show y.rl.length-(i.i+1)<y.rl.length-i.i;omega) wV QNG λF ⟨⟨⟨⟨⟨x,hy⟩,h8⟩,hS⟩,h24⟩,hs25⟩=>⟨⟨⟨x,hy⟩,h8⟩,hS.snoc h24⟩
 have hge:i.i=y.rl.length:=by have:=QOX hc;have:=i.le;omega
 refine Q7 ?_;refine QG<|QB ?_
 have X:=i.len;obtain⟨⟨rq,rn,rc⟩,Y,m,hrc,g⟩:=Q2.fix (w0:=w) (F0:=F) (bs1:=[_]) (G:=_) i.hr;dsimp only at m hrc g;subst m;refine Vz g ?_;rw[Y];dsimp only[Sr.v];refine Kg (b:=z) .here<|QOm 5 I ?_
 exact QO ((⟨z,⟨rq,i.i,rc⟩,i.ps,L.1,L.2⟩:SyP)) I (wN I) (rfl) λF h9=>⟨h9.2,h9.1.2,h9.1.1.2,by have e:=i.hq;rw[hge]at e;rw[e];exact bF (by unfold YA.rs;rw[af];exact bm _),X,h9.1.1.1.2⟩
end Go.Proofs.YtogkbhegfnklhaaGreatDoor
