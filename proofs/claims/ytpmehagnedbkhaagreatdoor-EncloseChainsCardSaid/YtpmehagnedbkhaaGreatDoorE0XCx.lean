/- Steps of the proof of the theorem in the last file. -/
import Derived.Test.YtpmehagnedbkhaaGreatDoorQ0
import Derived.IntWalk
import Derived.Test.YtpmehagnedbkhaaGreatDoorProg
import Derived.KernelRfl
import Derived.Lib.ItoaNum
import Derived.Lib.Atoi
import Derived.Lib.Repeat
import Derived.Lib.IndexMore
import Derived.Laws.IdiomArrays
set_option linter.all false
set_option maxHeartbeats 4000000
open Go.Proofs.Tryz
open Go.Lib renaming trimPrefix → aa,decDigits → ak,hasPrefix → au,decDigits_length → bj
open Go.Value renaming bool → ae,int → ag,okWide → fp,slice → fz
open Bool renaming eq_iff_iff → af,or_eq_false_iff → ee,not_eq_false' → fa,and_eq_true → ff
open List renaming cons_append → ah,nil_append → ai,eq_nil_of_length_eq_zero → aq,take_of_length_le → ar,length_set → ax,length_take → ay,length_append → aB,getElem?_toArray → aE,foldl_append → aF,drop_drop → aH,take_set_of_le → aI,length_singleton → aL,take_length → aM,length_drop → aN,length_cons → aO,replicate → aR,drop_eq_getElem_cons → aS,take_succ_eq_append_getElem → aT,drop_set_of_lt → aY,range_succ → bh,range → bz,drop_zero → bD,drop_of_length_le → bF,drop_eq_nil_of_le → bG,length_nil → bW,take_append_drop → bX,drop_set → ep,length → eD,isPrefixOf → eF,takeWhile_cons_of_pos → eN,getElem?_eq_getElem → eQ,length_eq_zero_iff → eU,sublist_cons_self → eW,getElem?_eq_none → eX,takeWhile_cons → e8,all_eq_true → fe,append_nil → fg,set_set → fu
open Int renaming mul_le_mul_of_nonneg_left → aj,mul_le_mul_of_nonneg_right → aA,mul_comm → aJ,pow_succ → aQ,one_mul → aX,gcd → aZ,natAbs_mul → bc,mul_ne_zero → bA,ediv_nonneg → bB,emod_add_mul_ediv → bH,ediv_le_self → bI,mul_sub → bK,mul_add → bL,lt_or_le → bM,sub_add_cancel → bO,mul_nonneg → bP,mul_le_mul → bQ,emod_lt_of_pos → bR,le_refl → bT,mul_assoc → bV,emod_nonneg → bY,ediv_lt_of_lt_mul → bZ,sub_mul → ef,add_mul → ei,toNat_of_nonneg → er,toNat_natCast → ey,mul_zero → eB,pow_add → eG,mul_one → eH,natCast_pow → eK,natAbs_tdiv → eM,mul_lt_mul_of_pos_right → eO,lt_of_mul_lt_mul_left → eR,eq_of_mul_eq_mul_left → eT,mul_ediv_cancel_left → eV,natAbs_natCast → fc,gcd_dvd_left → fh,natCast_mul → fj,ofNat_tmod → fl,ofNat_tdiv → fm,add_assoc → fy,zero_mul → fG,zero_add → fH,lt_trans → fI,emod_def → fJ,mul_neg → fQ
open Rat renaming divInt → ao,le_refl → aG,mul_nonneg → bN,mul_le_mul_of_nonneg_right → eC,neg_num → eY,neg_divInt_neg → fb,mkRat_self → fk,zero_mul → fA,zero_add → fB,pow_zero → fC,add_zero → fD,neg_den → fO
open Nat renaming le_refl → av,eq_zero_or_pos → aC,mul_lt_mul_of_lt_of_lt → aD,zero_le → aK,zero_add → aU,pow_le_pow_right → aV,lt_or_ge → aW,le_trans → bm,gcd → bw,add_sub_cancel_left → bC,add_assoc → bU,pow_le_pow_left → ek,add_sub_cancel → ew,div_le_self → eI,mod_lt → eP,pow_lt_pow_right → eZ,lt_irrefl → fq,gcd_comm → fF
open And renaming intro → aP
open List.Perm renaming refl → bJ
open UInt8 renaming ofNat → bS
open Classical renaming choose → eu
open Go.IntWalk renaming i64_in → eE
open Go.Result renaming andThen_ok → e9
open Go.Region renaming wanted → fi
open Go.Sem renaming run_pure → fK,run_bind → fL
open Go.Lib.decDigits renaming eq_1 → fM
open Go.DataW renaming trod → fN
open List.Sublist renaming refl → fP
namespace Go.Proofs.YtpmehagnedbkhaaGreatDoor
variable{c f t z zx:Int}{h m x:Rat}{y:Operand}{T yT:TypeId}{i k n:Nat}{cs:List Value}{a b l o u:List Int}{s:List UInt8}{w:World}{F:Gs}{ra rb:Sr}
open Go.RowKit
section
variable[Dr][df:Df]
section
variable{P:Program}{Q:Exit->Act->World->Prop}{N:Nat}{m:Sl}{E:Env}
theorem C9{c:Operand}{x y:Code}(hc:ev m c=some (.bool true))(h:J P x Q N m E):J P (.cond c x y) Q N m E:=QO hc (λ_=>h) λh=>by cases h
variable{ops:Array Oper}{l:List Oper}{E0:Env}
variable{d:Nat}{o:Op}{ty:TypeId}{pos:String}{aft:Array Edge}{v:Value}
end
end
section
variable[Dr][df:Df]
section
variable{P:Program}{Q:Exit->Act->World->Prop}{N:Nat}{m:Sl}{E E0:Env}{ops:Array Oper}{l:List Oper}{w0:World}{F0:Gs}{bs:List (Nat×Obj)}{G:Gs->Prop}
section
variable{d:Nat}{ty:TypeId}{pos:String}{aft:Array Edge}
theorem QFo{z:List Value}(hz:J8 P T=some z)(k:∀b,JD P ops Q E0 l N ((d,.pointer (some ⟨b,0,none⟩))::m) ⟨w0,F0,(b,.cells z.toArray T (0,0))::bs,G⟩)(hu:Gc T=true:=by rfl)(hd:J2 N (some d)=true:=by rfl):
  JD P ops Q E0 (⟨some d,.alloc T,ty,pos,aft,none⟩::l) N m ⟨w0,F0,bs,G⟩:=λhE a w ha hw=>by
 have hS:=hw.alloc (.cells z.toArray T (0,0)) (X4 hu);have sub:∀w' b,St ⟨w0,F0,(b,.cells z.toArray T (0,0))::bs,G⟩ w'->St E0 w':=λw' b h=>hE w' (h.imp (eW _ _) λ_ h=>h);refine .inr ⟨rfl,?_⟩;rw[if_pos (by simp[fi])];exact upon_value (D5 hz) ⟨sub _ _ hS,k _ (λw' h=>sub w' _ h) _ _ (ha.put hd _) hS⟩
theorem GB{t e:TypeId}{sz:Nat}{z:List Value}{g:Bool}{parts:Array (Nat×Operand)}{ps:List (Nat×Value)}(hp:WY m parts.toList=some ps)(ht:P.underlying t=some (.slice e))(hs:Z1 P e=some (g,sz))(hz:J8 P e=some z)
  (hc:Yu sz 0 ps=some cs) (hl:cs.length=n*sz) (k:∀b,JD P ops Q E0 l N ((d,.slice (some ⟨b,0,none⟩) n n)::m) ⟨w0,F0,(b,.cells cs.toArray e (0,0))::bs,G⟩) (h24:Nat.ble (n*sz) 16777216=true:=by rfl) (hn:Nat.beq (n*sz) 0=false:=by rfl)
  (hu:Gc e=true:=by rfl) (hd:J2 N (some d)=true:=by rfl):JD P ops Q E0 (⟨some d,.buildSlice t n parts,ty,pos,aft,none⟩::l) N m ⟨w0,F0,bs,G⟩:=λhE a w ha hw=>by
 have hS:=hw.alloc (.cells cs.toArray e (0,0)) (X4 hu);have sub:∀w' b,St ⟨w0,F0,(b,.cells cs.toArray e (0,0))::bs,G⟩ w'->St E0 w':=λw' b h=>hE w' (h.imp (eW _ _) λ_ h=>h);refine .inr ⟨rfl,?_⟩;rw[if_pos (by simp[fi])];exact upon_value (KF ha hp ht hs hz hc hl h24 hn) ⟨sub _ _ hS,k _ (λw' h=>sub w' _ h) _ _ (ha.put hd _) hS⟩
end
end
end
section
variable[Dr][df:Df]
section
variable{P:Program}{N:Nat}{m:Sl}{S:World->Prop}{ty:TypeId}{v:Value}
theorem Sd{x:Operand}{a b:Int}(hx:ev m x=some (.int .i64 a))(hy:ev m y=some (.int .i64 b))(ha:0<=a)(ha':a<=9223372036854775807)(hb:0<b):Qt P N m S (.binOp .quo T x y yT) ty (.int .i64 (a/b)):=by
 have:=gj (P:=P) (N:=N) (m:=m) (S:=S) (ty:=ty) (T:=T) (yT:=yT) hx hy O;have e:a.tdiv b=a/b:=Int.tdiv_eq_ediv_of_nonneg ha;have h0:0<=a/b:=bB ha O;have h1:a/b<=a:=bI b ha;rw[e,eE _ ⟨O,O⟩]at this;exact this
theorem qj{src dst:TypeId}{x:Operand}{k':IntKind}{n:Int}(hx:ev m x=some (.int k' n))(hs:(P.underlying src).isSome=true)(hk:N1 P dst=some .i64)(h : -9223372036854775808<=n/\n<=9223372036854775807):Qt P N m S (.convert src dst x) ty (.int .i64 n):=by
 have:=LC (P:=P) (N:=N) (m:=m) (S:=S) (ty:=ty) hx hs hk;rw[Cf h]at this;exact this
theorem QGo{T':TypeId}{x:Operand}{a b:Int}(hx:ev m x=some (.int .i64 a))(hy:ev m y=some (.int .i64 b)):Qt P N m S (.call ⟨.builtin .max,#[x,y],#[T,T']⟩) ty (.int .i64 (if b>a then b else a)):=λs w _ _ _ _ ha _=>by
 rw[YH];simp[builtin,ha.ev hx,ha.ev hy,Builtin.max_,Builtin.max2]
end
end
section
variable[Dr][df:Df]
section
variable{P:Program}{Q:Exit->Act->World->Prop}{N:Nat}{m:Sl}{E E0:Env}{ops:Array Oper}{l:List Oper}{w0:World}{F0:Gs}{bs:List (Nat×Obj)}{G:Gs->Prop}{ty:TypeId}{v:Value}{S:World->Prop}
theorem UA(v:Value):∀n,XY [v] n=aR n v
 |0=>rfl
 |n+1=>by rw[XY,UA v n];rfl
end
end
theorem SI:Z1 prog 4=some (false,1):=wm
theorem QG4:(prog.underlying 5).isSome=true:=wm
theorem Ay:Bo prog 41=true:=wm
theorem QGu:ZM prog 54=some 40:=wm
theorem J9:Z1 prog 123=some (true,2):=wm
theorem Wi:J8 prog 123=some [.bool false,.slice none 0 0]:=wm
theorem QEe:Zy prog 123=some [(0,1),(1,1)]:=wm
theorem Ek:Yo prog 123 0=some (0,4):=wm
theorem K2:Yo prog 123 1=some (1,52):=wm
end Go.Proofs.YtpmehagnedbkhaaGreatDoor
namespace Ig
def Ve(l:List Int):(Je l).length<=l.length:=by
 obtain⟨n,hn⟩:=S4 l;have:=congrArg eD hn;simp at this;omega
end Ig
namespace Go.Proofs.YtpmehagnedbkhaaGreatDoor
variable{c f t z zx:Int}{h m x:Rat}{y:Operand}{T yT:TypeId}{i k n:Nat}{cs:List Value}{a b l o u:List Int}{s:List UInt8}{w:World}{F:Gs}{ra rb:Sr}
open Go
def ku(h:0<n):∃c l,ak n=c::l/\c≠48:=by
 induction n using Nat.strongRecOn with
 |_ n ih =>
  rw[ak];split
  ·rename_i h10;refine⟨_,[],rfl,λe=>?_⟩;have:=Kz h10;rw[e]at this;simp at this;omega
  obtain⟨c,l,e,hc⟩:=ih (n/10) O O;exact⟨c,l++[bS (48+n%10)],by rw[e];rfl,hc⟩
theorem Lc(n:Nat):Xu (ak n)=true:=by
 rcases aC n with h | h
 ·subst h;rw[YZ];decide
 obtain⟨c,l,e,hc⟩:=ku h;have:=Jx n;rw[e]at this ⊢;simp[Xu,this,hc]
def QAJ{l:List UInt8}(h:l.length<=k):(H6 k l).length=k:=by
 unfold H6;rw[Ge];simp;omega
open Go.RowKit Ig
def ahead(p:UInt8->Bool)(s:List UInt8):Nat:=(s.takeWhile λc=>!p c).length
def dE{p:UInt8->Bool}(hi:i<s.length)(h:(s.take i).all (λc=>!p c)=true)(hp:p s[i]=true):ahead p s=i:=by
 unfold ahead;have e:s=s.take i++s[i]::s.drop (i+1):=by rw[<-aS hi,bX]
 have hl:(s.take i).length=i:=w6;rw[e,List.takeWhile_append_of_pos (by simpa using h),e8];simp[hp];omega
def dF{p:UInt8->Bool}(h:s.all (λc=>!p c)=true):ahead p s=s.length:=by
 unfold ahead
 induction s with
 |nil=>rfl
 |cons c s ih =>
  simp only[List.all_cons,ff]at h;rw[e8,if_pos h.1,aO,ih h.2,aO]
def LY{p:UInt8->Bool}(hi:i<s.length)(h:(s.take i).all p=true)(hp:p s[i]=true):(s.take (i+1)).all p=true:=by
 rw[aT hi,List.all_append,h];simp[hp]
def Zx(c:UInt8):Bool:=c==47
theorem Ag{c d:UInt8}(hz:z=(d.toNat:Int)):((c.toNat:Int)==z)=(c==d):=by
 rw[af];simp only[beq_iff_eq];constructor
 ·intro h;apply UInt8.toNat.inj;omega
 rintro rfl;exact hz.symm
theorem TD(hF:Fits F w)(hl:s.length<=9223372036854775807):Qe prog 157 [tx s] w F (.int .i64 (ahead Zx s)):=by
 refine QT.intro (G:=λ_=>True) func157 rfl wy rfl rfl hF w8<|QKO<|wQ rfl<|QG<|QKO<|wQ rfl<|QV<|YA (ι:=AQ s.length λi=>(s.take i).all (λc=>!Zx c)=true) (λi=>[(0,tx s),(3,.int .i64 i.i)]) (λ_=>[]) (λ_ _=>True) (λi=>s.length-i.i) ⟨0,aK _,rfl⟩ wT QJZ w8 λi=>?_
 have hle:=i.le;refine wA 5 I<|QA (X7 I Zo)<|QKq 3 I ?_
 refine QO I (λhc=>?_) λhc=>?_
 ·have hi:i.i<s.length:=by simp at hc;omega
  clear hc;refine QKr 8 I<|QA (Hq I I Zo (hi))<|QKq 3 I ?_
  refine QO I (λhc=>?_) λhc=>?_
  ·refine wA 7 I ?_
   repeat first|refine Q4 ?_|refine Qy ?_
   exact QQ () I (wN I) (congrArg (λn:Nat=>ag .i64 (n:Int)) (dE hi i.h (by unfold Zx;have:=hc;rw[Ag (d:=47) (z:=47) rfl]at this;simpa using this))) w8
  refine QN<|Qk<|QKs 3 I<|QA (Qv I I O)<|wB 2 I ?_
  exact Ql (⟨i.i+1,O,LY hi i.h (by unfold Zx;have:=hc;rw[Ag (d:=47) (z:=47) rfl]at this;simpa using this)⟩:AQ s.length λi=>(s.take i).all (λc=>!Zx c)=true) (by show s.length-(i.i+1)<s.length-i.i;omega) wT QJZ w8
 refine Q2 ?_
 repeat first|refine QY ?_|refine QP wy ?_
 refine QZ<|QC<|wR I<|QA (X7 I Zo)<|wQ I<|QW ?_
 exact QQ () I (wN I) (congrArg (λn:Nat=>ag .i64 (n:Int)) (dF (by have e:=i.h;rw[ar (by simp at hc;omega)]at e;exact e))) w8
theorem ga(hF:Fits F w)(hl:s.length<=9223372036854775807):Qe prog 256 [tx s] w F (.bool (ZJ s)):=by
 refine QT.intro (G:=λ_=>True) func256 rfl wy rfl rfl hF w8<|QKO<|wQ rfl<|QG<|QKO<|wQ rfl<|QV<|YA (ι:=AQ s.length λi=>(s.take i).all LO=true) (λi=>[(0,tx s),(3,.int .i64 i.i)]) (λ_=>[]) (λ_ _=>True) (λi=>s.length-i.i) ⟨0,aK _,rfl⟩ wT QJZ w8 λi=>?_
 have hle:=i.le;refine wA 5 I<|QA (X7 I Zo)<|QKq 3 I ?_
 refine QO I (λhc=>?_) λhc=>?_
 ·have hi:i.i<s.length:=by simp at hc;omega
  clear hc;refine QKr 8 I<|QA (Hq I I Zo (hi))<|wB 2 I ?_
  refine Qs (t:=14) rfl (λhb14=>?_) λhb14=>?_
  ·refine QKq 7 I<|C9 I<|wA 6 I ?_
   repeat first|refine Q4 ?_|refine Qy ?_
   exact QQ () I (wN I) (congrArg ae (by rw[Uc hi (by have h1:=QKc hb14;cases hd:LO s[i.i]with | false=>rfl | true=>(have:=Km.1 hd;omega))])) w8
  refine wB 5 I<|QA (Hq I I Zo (hi))<|QKq 5 I ?_
  refine QO I (λhc=>?_) λhc=>?_
  ·refine wA 6 I ?_
   repeat first|refine Q4 ?_|refine Qy ?_
   exact QQ () I (wN I) (congrArg ae (by rw[Uc hi (by have h1:=QKc hc;cases hd:LO s[i.i]with | false=>rfl | true=>(have:=Km.1 hd;omega))])) w8
  refine QN<|Qk<|QKs 3 I<|QA (Qv I I O)<|wB 2 I ?_
  exact Ql (⟨i.i+1,O,LY hi i.h (Km.2 (by have h1:=QKd hb14;have h2:=QKd hc;constructor<;>omega))⟩:AQ s.length λi=>(s.take i).all LO=true) (by show s.length-(i.i+1)<s.length-i.i;omega) wT QJZ w8
 refine Q2 ?_
 repeat first|refine QY ?_|refine QP wy ?_
 refine QZ<|QKs 7 I ?_
 exact QQ () I (wN I) (congrArg ae (by have e:=i.h;rw[ar (by simp at hc;omega)]at e;exact e)) w8
theorem QE5(h1:(1:Int)<(s.length:Int))(h:s[0]' O=48):Xu s=false:=by
 cases s with
 |nil=>simp at h1
 |cons c r =>
  have hc:c=48:=h;subst hc;have hr:r≠[]:=by intro e;subst e;simp at h1
  simp[Xu,hr]
theorem QDr(h1:(1:Int)<(s.length:Int))(h:¬s[0]' O=48):Xu s=ZJ s:=by
 cases s with
 |nil=>simp at h1
 |cons c r =>
  have hc:¬c=48:=h;simp[Xu,hc]
theorem QE4(h0:0<s.length)(h1:s.length<=1):Xu s=ZJ s:=by
 match s,h0,h1 with
 |[c],_,_ =>
  by_cases hc:c=48
  ·subst hc;rfl
  simp[Xu,hc]
theorem QCy(hF:Fits F w)(hl:s.length<=9223372036854775807):Qe prog 158 [tx s] w F (.bool (Xu s)):=by
 refine QT.intro (G:=λ_=>True) func158 rfl wy rfl rfl hF w8<|QKO<|wQ rfl<|QG<|wR rfl<|QA (X7 rfl Zo)<|QA (QU rfl rfl rfl)<|QJD rfl ?_
 refine Qs (t:=6) rfl (λhb6=>?_) λhb6=>?_
 ·refine wB 4 I<|J0 I I<|J0 I I<|J0 I I<|QKq 4 I<|C9 I<|wA 6 I ?_
  exact QQ () I (wN I) (congrArg ae (by have h0:s=[]:=(by simpa using hb6);subst h0;rfl)) w8
 refine wB 3 I<|QA (X7 I Zo)<|wB 4 I ?_
 refine Qs (t:=10) rfl (λhb10=>?_) λhb10=>?_
 ·refine wB 3 I<|QA (Hq (i:=0) rfl rfl Zo (wk<|QKc hb10))<|QKq 7 I ?_
  refine QO I (λhc=>?_) λhc=>?_
  ·refine wA 6 I ?_;exact QQ () I (wN I) (congrArg ae (QE5 (QKc hb10) (by have h:=hc;rw[Ag (d:=48) (z:=48) rfl]at h;simpa using h))) w8
  refine QKr 5 I<|QI I (λ_ _ f _=>ga f hl) λ_=>wQ I<|QW ?_
  exact QQ () I (wN I) (congrArg ae (QDr (QKc hb10) (by have h:=hc;rw[Ag (d:=48) (z:=48) rfl]at h;simpa using h))) w8
 refine QKq 8 I<|YV I<|QKr 5 I<|QI I (λ_ _ f _=>ga f hl) λ_=>wQ I<|QW ?_
 exact QQ () I (wN I) (congrArg ae (QE4 (List.length_pos_iff.2 (by simpa using hb6)) (by have h:=QKd hb10;omega))) w8
def AS(s:List UInt8):Int:=if s=[48]then 0 else if au s [45]=true then -1 else 1
def QBr(s:List UInt8):List UInt8:=if AS s<0 then s.drop 1 else if AS s=0 then s else 45::s
def QDy(s:List UInt8):List UInt8:=if AS s<0 then s.drop 1 else s
def numOf(s:List UInt8):List UInt8:=s.take (ahead Zx s)
def QAi(s:List UInt8):List UInt8:=if ahead Zx s=s.length then[49]else s.drop (ahead Zx s+1)
def E2(p:UInt8->Bool)(s:List UInt8):ahead p s<=s.length:=(List.takeWhile_sublist _).length_le
theorem EP(h:0<s.length):au s [45]=(s[0]==45):=by
 cases s with
 |nil=>simp at h
 |cons c r =>
  have e:au (c::r) [45]=(45==c):=by simp[au,eF]
  rw[e,af];simp only[List.getElem_cons_zero,beq_iff_eq];exact⟨λh=>h.symm,λh=>h.symm⟩
def O9(h:AS s<0):0<s.length:=by
 cases s with
 |nil=>exact absurd h wu
 |cons=>simp
theorem xG(hF:Fits F w):Qe prog 34 [tx s] w F (.int .i64 (AS s)):=by
 refine QT.intro (G:=λ_=>True) func34 rfl wy rfl rfl hF w8<|QKO<|wQ rfl<|QG<|wR rfl<|QA (VD rfl rfl)<|QE<|QC ?_
 refine QO I (λhc4=>?_) λhc4=>?_
 ·refine wA 6 I ?_;exact QQ () I (wN I) (congrArg (ag .i64) (by unfold AS;rw[if_pos (by simpa using hc4)])) w8
 refine QKr 6 I<|QA (X7 I Ay)<|wB 2 I ?_
 refine Qs (t:=8) rfl (λhb8=>?_) λhb8=>?_
 ·refine wB 3 I<|QA (Hq (i:=0) rfl rfl Ay (wk<|QKc hb8))<|QKq 5 I ?_
  refine QO I (λhc=>?_) λhc=>?_
  ·refine wA 6 I ?_;exact QQ () I (wN I) (congrArg (ag .i64) (by unfold AS;rw[if_neg (by simpa using hc4),if_pos];rw[EP (wk<|QKc hb8),<-Ag (z:=45) rfl];exact hc)) w8
  refine QKr 8 I ?_;exact QQ () I (wN I) (congrArg (ag .i64) (by unfold AS;rw[if_neg (by simpa using hc4),if_neg];rw[EP (wk<|QKc hb8),<-Ag (z:=45) rfl,hc];decide)) w8
 refine QKq 6 I<|YV I<|QKr 8 I ?_
 exact QQ () I (wN I) (congrArg (ag .i64) (by have h0:s=[]:=(by have:=hb8;simp at this;exact this);subst h0;rfl)) w8
theorem QHI(hF:Fits F w)(hl:s.length<=1000000000):Qe prog 37 [tx s] w F (tx (QBr s)):=by
 refine QT.intro (G:=λ_=>True) func37 rfl wy rfl rfl hF w8<|QKO<|wQ rfl<|QG<|wR rfl<|QI rfl (λ_ _ f _=>xG f ) λ_=>QA (QU rfl rfl rfl)<|QE<|QC ?_
 refine QO I (λhc5=>?_) λhc5=>?_
 ·refine wR I<|QA (GG 1 rfl rfl Ay I (O9 (QKc hc5)))<|wQ I<|QW ?_
  exact QQ () I (wN I) (congrArg tx (by unfold QBr;rw[if_pos (QKc hc5)])) w8
 refine QKr 6 I<|QI I (λ_ _ f k=>xG f ) λ_=>QKq 3 I ?_
 refine QO I (λhc10=>?_) λhc10=>?_
 ·refine wA 7 I ?_;exact QQ () I (wN I) (congrArg tx (by unfold QBr;rw[if_neg (QKd hc5),if_pos (by simpa using hc10)])) w8
 refine QKr 5 I<|QA (Ye I I w6)<|wQ I<|QW ?_
 exact QQ () I (wN I) (congrArg tx (by unfold QBr;rw[if_neg (QKd hc5),if_neg (by simpa using hc10)];rfl)) w8
theorem QHM(hF:Fits F w):Qe prog 115 [tx s] w F (tx (QDy s)):=by
 refine QT.intro (G:=λ_=>True) func115 rfl wy rfl rfl hF w8<|QKO<|wQ rfl<|QG<|wR rfl<|QI rfl (λ_ _ f _=>xG f ) λ_=>QA (QU rfl rfl rfl)<|QE<|QC ?_
 refine QO I (λhc=>?_) λhc=>?_
 ·refine wR I<|QA (GG 1 rfl rfl Ay I (O9 (QKc hc)))<|wQ I<|QW ?_
  exact QQ () I (wN I) (congrArg tx (by unfold QDy;rw[if_pos (QKc hc)])) w8
 refine QKr 9 I ?_;exact QQ () I (wN I) (congrArg tx (by unfold QDy;rw[if_neg (QKd hc)])) w8
theorem QF5(hF:Fits F w):Qe prog 199 [tx s] w F (.bool (s==[48])):=by
 refine QT.intro (G:=λ_=>True) func199 rfl wy rfl rfl hF w8<|QKO<|wQ rfl<|wR rfl<|QA (VD rfl rfl)<|wQ rfl<|QW ?_
 exact QQ () I (wN I) (rfl) w8
theorem QHH(hF:Fits F w)(hl:s.length<=1000000000):Qe prog 116 [tx s] w F (tx (numOf s)):=by
 refine QT.intro (G:=λ_=>True) func116 rfl wy rfl rfl hF w8<|QKO<|wQ rfl<|wR rfl<|QJD rfl<|QI rfl (λ_ _ f _=>TD f (bm hl wu)) λ_=>QA (Mw (ahead Zx s) rfl rfl Ay rfl (E2 _ _))<|wQ rfl<|QW ?_
 exact QQ () I (wN I) (rfl) w8
theorem QHL(hF:Fits F w)(hl:s.length<=1000000000):Qe prog 117 [tx s] w F (tx (QAi s)):=by
 refine QT.intro (G:=λ_=>True) func117 rfl wy rfl rfl hF w8<|QKO<|wQ rfl<|wR rfl<|QI rfl (λ_ _ f _=>TD f (bm hl wu)) λ_=>wQ rfl<|QG<|wR rfl<|QJD rfl<|QA (X7 rfl Ay)<|QA (QU rfl rfl rfl)<|QE<|QC ?_
 refine QO I (λhc=>?_) λhc=>?_
 ·refine wA 6 I ?_;exact QQ () I (wN I) (congrArg tx (by unfold QAi;rw[if_pos (by simp at hc;omega)])) w8
 refine QKr 6 I<|QA (Qv I I (wk<|E2 Zx s))<|QA (GG (ahead Zx s+1) rfl rfl Ay I (by have:=E2 Zx s;simp at hc;omega))<|wQ I<|QW ?_
 exact QQ () I (wN I) (congrArg tx (by unfold QAi;rw[if_neg (by simp at hc;omega)])) w8
def j0(hi:i<s.length):Jb (s.take (i+1))=Jb (s.take i)*10+(s[i].toNat-48):=by
 rw[aT hi,Kd,Wp];simp
def QIA(hi:i<s.length)(h:ZJ s=true):48<=s[i].toNat/\s[i].toNat<=57:=by
 rw[ZJ,fe]at h;exact Km.1 (h _ (List.getElem_mem hi))
theorem CE(hF:Fits F w)(hs:ZJ s=true)(hl:s.length<=18):Qe prog 160 [tx s] w F (.int .i64 (Jb s)):=by
 refine QT.intro (G:=λ_=>True) func160 rfl wy rfl rfl hF w8<|QKO<|wQ rfl<|QKO<|wQ rfl<|QG<|QKO<|wQ rfl<|QV<|YA (ι:=AQ s.length λ_=>True) (λi=>[(0,tx s),(3,.int .i64 (Jb (s.take i.i))),(4,.int .i64 i.i)]) (λ_=>[]) (λ_ _=>True) (λi=>s.length-i.i) ⟨0,aK _,trivial⟩ wU QJZ w8 λi=>?_
 have hle:=i.le;have hlt:=He (Mm hs i.i);have hp18:(10:Nat)^(s.take i.i).length<=10^18:=aV wu w6;refine wA 5 I<|QA (X7 I Zo)<|QKq 3 I ?_
 refine QO I (λhc=>?_) λhc=>?_
 ·have hi:i.i<s.length:=by simp at hc;omega
  have hd:=QIA hi hs;have hp17:(10:Nat)^(s.take i.i).length<=10^17:=aV wu w6;refine QKr 6 I<|QA (N0 I I O)<|wB 2 I<|QA (Hq I I Zo (hi))<|QA (qj I QG4 k_3 O)<|QA (Qv I I O)<|QA (X6 I I O)<|wB 2 I<|Qk<|QKs 3 I<|QA (Qv I I O)<|wB 2 I ?_
  exact Ql (⟨i.i+1,O,trivial⟩:AQ s.length λ_=>True) (by show s.length-(i.i+1)<s.length-i.i;omega) ⟨rfl,(by show some (ag .i64 _)=some (ag .i64 _);rw[j0 hi];congr 2;omega),rfl,trivial⟩ QJZ w8
 refine Q2 ?_
 repeat first|refine QY ?_|refine QP wy ?_
 refine QZ<|QKs 8 I ?_
 exact QQ () I (wN I) (congrArg (ag .i64) (by rw[ar (by simp at hc;omega)])) w8
structure QJG(a b:Nat) where
 x:Nat
 y:Nat
 h:bw x y=bw a b
 hx:x<=9223372036854775807
 hy:y<=9223372036854775807
theorem QHK{a b:Nat}(hF:Fits F w)(ha:a<=9223372036854775807)(hb:b<=9223372036854775807):Qe prog 99 [.int .i64 (a:Int),.int .i64 (b:Int)] w F (.int .i64 (bw a b:Nat)):=by
 refine QT.intro (G:=λ_=>True) func99 rfl wy rfl rfl hF w8<|QKO<|wQ rfl<|QG<|QV<|YA (ι:=QJG a b) (λi=>[(0,.int .i64 (i.x:Int)),(1,.int .i64 (i.y:Int))]) (λ_=>[]) (λ_ _=>True) (λi=>i.y) ⟨a,b,rfl,ha,hb⟩ wT QJZ w8 λi=>?_
 have hx:=i.hx;have hy:=i.hy;refine wA 7 I ?_;refine QO I (λhc=>?_) λhc=>?_
 ·have hpos:0<i.y:=by simp at hc;omega
  refine QKr 3 I<|JK QJZ mixed wm<|QK (QD I)<|QK (QD I)<|QK (QD I)<|QK (Hp I I O O)<|QK (QF I)<|QK (QF I)<|Q5<|Qk ?_
  exact Ql (⟨i.y,i.x%i.y,by rw[<-i.h,fF i.x,Nat.gcd_rec i.y i.x,fF],hy,wk<|eP i.x hpos⟩:QJG a b) (eP i.x hpos) wT QJZ w8
 refine Q2 ?_
 repeat first|refine QY ?_|refine QP wy ?_
 refine QZ<|QKs 8 I ?_
 exact QQ () I (wN I) (congrArg (λn:Nat=>ag .i64 (n:Int)) (by have h0:i.y=0:=(by simp at hc;omega);rw[<-i.h,h0,Nat.gcd_zero_right])) w8
def jQ(n least:Nat):List UInt8:=H6 least (hd n)
def QDA(h:0<n):hd n=hd (n/10)++[bS (48+n%10)]:=by
 unfold hd;rw[if_neg O];by_cases h0:n/10=0
 ·rw[if_pos h0,ak,dif_pos O,Nat.mod_eq_of_lt O];rfl
 rw[if_neg h0,fM n,dif_neg O]
def QCL(h:n<=9223372036854775807):(hd n).length<=20:=by
 unfold hd;split
 ·simp
 rw[bj];exact Kj O wu
structure QD3(n least:Nat) where
 m:Nat
 t:List UInt8
 le:m<=n
 h:H6 (least-t.length) (hd m)++t=jQ n least
 tl:t.length+(hd m).length<=least+20
def QEL{d:Nat}(h:d<10):(([48,49,50,51,52,53,54,55,56,57]:List UInt8).take (d+1)).drop d=[bS (48+d)]:=by
 match d,h with
 |0,_=>rfl
 |1,_=>rfl
 |2,_=>rfl
 |3,_=>rfl
 |4,_=>rfl
 |5,_=>rfl
 |6,_=>rfl
 |7,_=>rfl
 |8,_=>rfl
 |9,_=>rfl
def QFC{least:Nat}{t:List UInt8}(h:0<n\/t.length<least):H6 (least-(bS (48+n%10)::t).length) (hd (n/10))++(bS (48+n%10)::t)=H6 (least-t.length) (hd n)++t:=by
 rcases aC n with h0 | h0
 ·subst h0;have hlt:t.length<least:=O;have e:least-t.length=(least-(t.length+1))+1:=O;simp only[hd,H6,aO,if_true,bW,Nat.sub_zero,fg,Nat.zero_div,Nat.zero_mod];rw[e,Ge,Ge,List.replicate_succ',List.append_assoc];rfl
 rw[QDA h0];unfold H6;simp only[aB,aO,bW];rw[show least-(t.length+1)-(hd (n/10)).length=least-t.length-((hd (n/10)).length+(0+1)) by omega];simp
def QD3.next{n least:Nat}(i:QD3 n least)(h:0<i.m\/i.t.length<least):QD3 n least :=
 ⟨i.m/10,bS (48+i.m%10)::i.t,wk i.le,by rw[QFC h];exact i.h,by
  have:=i.tl;rcases aC i.m with h0 | h0
  ·have e:hd (i.m/10)=[]:=by rw[h0];rfl
   rw[e];have e2:hd i.m=[]:=by rw[h0];rfl
   rw[e2]at this;simp at this ⊢;omega
  have e:=congrArg eD (QDA h0);simp at e ⊢;omega⟩
theorem QBT{n least:Nat}(hF:Fits F w)(hn:n<=9223372036854775807)(hl:least<=1000):Qe prog 100 [.int .i64 (n:Int),.int .i64 (least:Int)] w F (tx (jQ n least)):=by
 refine QT.intro (G:=λ_=>True) func100 rfl wy rfl rfl hF w8<|QKO<|wQ rfl<|QKO<|wQ rfl<|QG<|QV<|YA (ι:=QD3 n least) (λi=>[(0,.int .i64 (i.m:Int)),(1,.int .i64 (least:Int)),(5,tx i.t)]) (λ_=>[]) (λ_ _=>True) (λi=>i.m+(least-i.t.length)) ⟨n,[],av _,by unfold jQ;simp,by have:=QCL hn;simp;omega⟩ wU QJZ w8 λi=>?_
 have hle:=i.le;have htl:=i.tl;refine wA 6 I ?_;refine Qs (t:=8) rfl (λhb8=>?_) λhb8=>?_
 ·refine QKq 7 I<|C9 I<|QKr 6 I<|QA (Hp I I O O)<|QJD I<|QA (Hp I I O O)<|QA (Qv I I O)<|QA (RO (i.m%10) (i.m%10+1) rfl rfl rfl Zo (.inr rfl) (.inr rfl) O (by show i.m%10+1<=10;omega)) ?_
  rw[QEL (eP _ wu)];refine QJD I<|QA (Ye I I w6)<|QKq 5 I<|QA (Sd I I O O O)<|wB 2 I<|Qk ?_
  exact Ql (QD3.next i (Or.inl (wk<|QKc hb8):0<i.m\/i.t.length<least)) (by show i.m/10+(least-(i.t.length+1))<i.m+(least-i.t.length);rcases(Or.inl (wk<|QKc hb8):0<i.m\/i.t.length<least)with g | g<;>omega) wU QJZ w8
 refine wB 3 I<|QA (X7 I Zo)<|QKq 7 I ?_
 refine QO I (λhc=>?_) λhc=>?_
 ·refine QKr 6 I<|QA (Hp I I O O)<|QJD I<|QA (Hp I I O O)<|QA (Qv I I O)<|QA (RO (i.m%10) (i.m%10+1) rfl rfl rfl Zo (.inr rfl) (.inr rfl) O (by show i.m%10+1<=10;omega)) ?_
  rw[QEL (eP _ wu)];refine QJD I<|QA (Ye I I w6)<|QKq 5 I<|QA (Sd I I O O O)<|wB 2 I<|Qk ?_
  exact Ql (QD3.next i (Or.inr (wk<|QKc hc):0<i.m\/i.t.length<least)) (by show i.m/10+(least-(i.t.length+1))<i.m+(least-i.t.length);rcases(Or.inr (wk<|QKc hc):0<i.m\/i.t.length<least)with g | g<;>omega) wU QJZ w8
 refine Q2 ?_
 repeat first|refine QY ?_|refine QP wy ?_
 refine QZ<|QKs 8 I ?_
 exact QQ () I (wN I) (congrArg tx (by have h1:=QKd hb8;have h2:=QKd hc;have h0:i.m=0:=O;rw[<-i.h,h0];simp[hd,H6,show least-i.t.length=0 by omega,Lib.repeatL])) w8
theorem Qw.take{q:Option Addr}(h:Qw F q n 1 (l.map Jn))(hl:l.length=n)(hk:k<=n):Qw F q k 1 ((l.take k).map Jn):=by
 refine⟨w6,λh0=>?_⟩;obtain⟨b,off,arr,T,e1,e2,e3⟩:=h.2 O;refine⟨b,off,arr,T,e1,e2,λj u hu=>e3 j u ?_⟩;rw[List.map_take]at hu;have hj:j<k:=by
  rcases aW j k with g | g
  ·exact g
  rw[eX w6]at hu;cases hu
 rw[List.getElem?_take_of_lt hj]at hu;exact hu
def QBE(hk:k<l.length)(h:Je l=Je (l.take (k+1)))(h0:l[k]=0):Je l=Je (l.take k):=by
 rw[h,aT hk,h0,Kw]
def QBD(hk:k<l.length)(h:Je l=Je (l.take (k+1)))(h0:l[k]≠0):Je l=l.take (k+1):=by
 rw[h,aT hk,BD _ h0]
structure QGz(l:List Int) where
 k:Nat
 le:k<=l.length
 h:Je l=Je (l.take k)
theorem UN{r:Sr}(hF:Fits F w)(hR:XD F r l)(hl:l.length<=1000000000):QT prog 258 [r.v] w F (λ(_:Unit)=>.slice r.q (Je l).length r.cap) (λ_ F=>XD F ⟨r.q,(Je l).length,r.cap⟩ (Je l)):=by
 obtain⟨q,n,c⟩:=r;have hn:=hR.2.1;have hcap:=hR.2.2;dsimp only at hn hcap;refine QT.intro (G:=λF=>XD F ⟨q,n,c⟩ l) func258 rfl wy rfl rfl hF (λF' hF'=>hR.le hF')<|QKO<|wQ rfl<|QG<|QV<|YA (ι:=QGz l) (λi=>[(0,.slice q i.k c)]) (λ_=>[]) (λ_ F=>XD F ⟨q,n,c⟩ l) (λi=>i.k) ⟨n,O,by rw[<-hn,aM]⟩ wS QJZ w9 λi=>?_
 have hle:=i.le;refine wA 4 I<|QA (Qg I JB)<|wB 2 I ?_
 refine Qs (t:=6) rfl (λhb6=>?_) λhb6=>?_
 ·have hk0:0<i.k:=wk<|QKc hb6
  have hk1:i.k-1<l.length:=O;refine JN _ (λ_ _ f h=>h.1.ptr (by dsimp only;omega)) (λhq=>?_);obtain⟨qb,qo,hq⟩:=hq;dsimp only at hq;subst hq;refine wB 5 I<|QA (Qg I JB)<|QL I I<|QA (X6 I I O)<|QL I I<|QA (JL (i:=i.k-1) rfl wM JB JO O)<|QL I I<|QA (Yj (n:=n) (sz:=1) (cs:=l.map Jn) (u:=.int .i64 l[i.k-1]) I JO tA O (by simp[hk1,Jn]))<|QKq 5 I ?_
  refine QO I (λhc=>?_) λhc=>?_
  ·refine QKr 6 I<|QA (Qg I JB)<|QA (X6 I I O)<|QA (Nh (i.k-1) rfl rfl wM JB JO O)<|wB 2 I<|Qk ?_
   exact Ql (⟨i.k-1,O,QBE hk1 (by rw[show i.k-1+1=i.k by omega];exact i.h) (by simpa using hc)⟩:QGz l) (by show i.k-1<i.k;omega) wS QJZ w9
  refine Q2 ?_
  repeat first|refine QY ?_|refine QP wy ?_
  refine QZ<|QKs 8 I ?_
  exact QQ () I (wN I) (congrArg (λk:Nat=>fz _ k c) (by have e:=QBD hk1 (by rw[show i.k-1+1=i.k by omega];exact i.h) (by simpa using hc);rw[show i.k-1+1=i.k by omega]at e;rw[e];simp;omega)) λF h=>by have hz:(Je l).length<=l.length:=Ve l;exact⟨(by have:=h.1.take hn (show(Je l).length<=n by omega);rw[<-P4]at this;exact this),rfl,(by show(Je l).length<=c;omega)⟩
 refine QKq 10 I<|YV I<|Q2 ?_
 repeat first|refine QY ?_|refine QP wy ?_
 refine QZ<|QKs 8 I ?_
 exact QQ () I (wN I) (congrArg (λk:Nat=>fz _ k c) (by have h0:i.k=0:=(wk<|QKd hb6);have e:=i.h;rw[h0]at e;simp[I7]at e;rw[e,h0];rfl)) λF h=>by have hz:(Je l).length<=l.length:=Ve l;exact⟨(by have:=h.1.take hn (show(Je l).length<=n by omega);rw[<-P4]at this;exact this),rfl,(by show(Je l).length<=c;omega)⟩
theorem z6{r:Sr}{i:Nat}(hF:Fits F w)(hR:XD F r l)(hi:i<=1000000000):Qe prog 260 [r.v,.int .i64 (i:Int)] w F (.int .i64 (l.getD i 0)):=by
 obtain⟨q,n,c⟩:=r;have hn:=hR.2.1;dsimp only at hn;refine QT.intro (G:=λF=>XD F ⟨q,n,c⟩ l) func260 rfl wy rfl rfl hF (λF' hF'=>hR.le hF') ?_;dsimp only[Sr.v];refine wA 10 I<|QA (Qg I JB)<|QKq 3 I ?_
 refine QO I (λhc=>?_) λhc=>?_
 ·have hk1:i<l.length:=wk<|QKc hc
  refine XQ _ (λ_ _ f h=>h.1.ptr (by dsimp only;omega)) (λhq=>?_);obtain⟨qb,qo,hq⟩:=hq;dsimp only at hq;subst hq;refine wA 4 I<|QA (JL (i:=i) rfl rfl JB JO O)<|QA (Yj (n:=n) (sz:=1) (cs:=l.map Jn) (u:=.int .i64 l[i]) I JO tA O (by simp[hk1,Jn]))<|wQ I<|QW ?_
  exact QQ () I (wN I) (congrArg (ag .i64) (by simp[hk1])) w8
 refine QKr 8 I ?_;exact QQ () I (wN I) (congrArg (ag .i64) (by have:=QKd hc;simp[show l.length<=i by omega])) w8
structure QJL(a b:List Int) where
 i:Nat
 out:List Int
 carry:Int
 v:Value
 ob:List (Nat×Obj)
 le:i<=max a.length b.length+1
 len:out.length=i
 dg:DG B9 out
 c0:0<=carry
 c1:carry<=1
 cz:max a.length b.length<i->carry=0
 h:dv B9 out+B9^i*carry=dv B9 (a.take i)+dv B9 (b.take i)
 hr:Q7 3 1 v out.length (out.map Jn) ob
theorem PH(B:Int)(l:List Int)(n:Nat):dv B (l.take (n+1))=dv B (l.take n)+B^n*l.getD n 0:=by
 rcases aW n l.length with h | h
 ·rw[B1 B l n h];simp[h]
 rw[ar O,ar h];simp[h]
def xL(h:DG B9 l)(i:Nat):0<=l.getD i 0/\l.getD i 0<1000000000:=h.getD wu i
def gq(h:l.length<=i):l.getD i 0=0:=by simp[h]
def QI4{out:List Int}{s:Int}(hl:out.length=i)(h:dv B9 out+B9^i*c=dv B9 (a.take i)+dv B9 (b.take i))(hs:s=a.getD i 0+b.getD i 0+c):
  dv B9 (out++[s%B9])+B9^(i+1)*(s/B9)=dv B9 (a.take (i+1))+dv B9 (b.take (i+1)):=by
 rw[ZA,hl,PH,PH,aQ,bV];have e:s%B9+B9*(s/B9)=s:=bH s B9;have e2:B9^i*(s%B9)+B9^i*(B9*(s/B9))=B9^i*s:=by rw[<-bL,e]
 rw[fy,e2,hs,bL,bL];omega
abbrev jq(P:Program)(f:FuncId)(args:List Value)(w:World)(F:Gs)(p:List Int->Prop):Prop:=QT P f args w F (λ(c:Sr×List Int)=>.slice c.1.q c.1.n c.1.cap) λc F=>XD F c.1 c.2/\DG B9 c.2/\p c.2
theorem pA(hF:Fits F w)(hA:XD F ra a)(hB:XD F rb b)(da:DG B9 a)(db:DG B9 b)(la:a.length<=100000000)(lb:b.length<=100000000):
  jq prog 166 [ra.v,rb.v] w F (λl=>dv B9 l=dv B9 a+dv B9 b/\l.length<=max a.length b.length+1):=by
 have na:=hA.2.1;have nb:=hB.2.1;have h9:B9=1000000000:=rfl;refine QT.intro (G:=λF=>XD F ra a/\XD F rb b) func166 rfl wy rfl rfl hF (λF' hF'=>⟨hA.le hF',hB.le hF'⟩)<|QKO<|wQ rfl<|QKO<|wQ rfl<|QKO<|wQ rfl<|QG<|QKO<|wQ rfl<|QV ?_
 refine YA (ι:=QJL a b) (λi=>[(0,ra.v),(1,rb.v),(5,i.v),(6,.int .i64 i.carry),(7,.int .i64 (i.i:Int))]) (λi=>i.ob) (λ_ F=>XD F ra a/\XD F rb b) (λi=>max a.length b.length+1-i.i)
  ⟨0,[],0,.slice none 0 0,[],aK _,rfl,DG.nil _,wu,wu,λ_=>rfl,wz,.nil⟩ wW tD w9 λi=>?_
 have hle:=i.le;have hlen:=i.len;have hc0:=i.c0;have hc1:=i.c1;refine QG ?_;refine E6 22 (.bool (decide ((i.i:Int)<ra.n)||decide ((i.i:Int)<rb.n)||decide (i.carry>0))) ?_ ?_
 ·refine wA 3 I<|QA (Qg I JB)<|wB 2 I ?_
  refine Qs (t:=13) rfl (λhb13=>?_) λhb13=>?_
  ·refine wB 10 I ?_;exact ZY (exd 15 rfl rfl) (congrArg (λb=>some (ae b)) (by rw[af];simp_all;try omega)) QJZ w9
  refine wB 5 I<|QA (Qg I JB)<|wB 4 I ?_
  refine Qs (t:=19) rfl (λhb19=>?_) λhb19=>?_
  ·refine wB 4 I ?_;exact ZY (exd 16 rfl rfl) (congrArg (λb=>some (ae b)) (by rw[af];simp_all;try omega)) QJZ w9
  refine wB 6 I ?_;exact ZY (exd 16 rfl rfl) (congrArg (λb=>some (ae b)) (by rw[af];simp_all;try omega)) QJZ w9
 refine QO I (λhc=>?_) λhc=>?_
 ·have hi:i.i<=max a.length b.length:=by
   rcases aW (max a.length b.length) i.i with g | g
   ·have:=i.cz g;simp at hc;omega
   exact g
  have b1:=xL da i.i;have b2:=xL db i.i;refine QKr 8 I<|QI I (λ_ _ f k=>z6 (r:=ra) (l:=a) f k.1 O) λ_=>wB 2 I<|QI I (λ_ _ f k=>z6 (r:=rb) (l:=b) f k.1.2 O) λ_=>QA (Qv I I O)<|QJD I<|QA (Qv I I O)<|QKq 7 I<|QA (Hp I I O O)<|Qb I (Qz JB) JO Pp I I λb37=>?_
  refine Ys (bs1:=[]) (ob:=i.ob) (k:=1) (sz:=1) (news:=[.int .i64 ((a.getD i.i 0+b.getD i.i 0+i.carry)%1000000000)]) I I JB JO Pp I Og i.hr (Src.row (off:=0) tB (λj v hv=>by rw[aU];show([ag .i64 ((a.getD i.i 0+b.getD i.i 0+i.carry)%1000000000)].toArray)[j]?=some v;rw[aE];exact hv) rfl) O O (λu hu=>by rw[List.mem_singleton.1 hu];rfl) (λv' ob' hr'=>?_);refine QKq 5 I<|QA (Sd I I O O O)<|wB 2 I<|Qk<|QKs 3 I<|QA (Qv I I O)<|wB 2 I ?_
  exact Ql (⟨i.i+1,i.out++[(a.getD i.i 0+b.getD i.i 0+i.carry)%B9],(a.getD i.i 0+b.getD i.i 0+i.carry)/B9,v',ob',O,by simp[hlen],i.dg.append (DG.cons (by rw[h9];omega) (by rw[h9];omega) (DG.nil _)),by rw[h9];omega,by rw[h9];omega,λg=>by rw[gq (l:=a) O,gq (l:=b) O,h9];omega,QI4 hlen i.h I,by simpa[Jn,h9]using hr'⟩:QJL a b) (by show max a.length b.length+1-(i.i+1)<max a.length b.length+1-i.i;omega) wW QJZ λF h=>h.1.1.1
 refine Q2 ?_
 repeat first|refine QY ?_|refine QP wy ?_
 refine QZ<|QKs 8 I ?_
 obtain⟨r,hv,hrn,hrc,hfix⟩:=Q7.fix (w0:=w) (F0:=F) (bs1:=[]) (G:=λF=>XD F ra a/\XD F rb b) i.hr;refine QDQ hfix ?_;have hex:max a.length b.length<=i.i/\i.carry=0:=by simp at hc;omega
 exact QQ ((r,i.out):Sr×List Int) rfl (wN I) hv.symm λF h=>⟨⟨by rw[hrn];exact h.2,hrn.symm,by show r.n<=r.cap;omega⟩,i.dg,by have e:=i.h;rw[hex.2,ar O,ar O]at e;simpa using e,by show i.out.length<=_;omega⟩
structure QJJ(a b:List Int) where
 k:Nat
 le:k<=a.length
 h:a.drop k=b.drop k
def QDs(ha:k<a.length)(hb:k<b.length)(h:a.drop (k+1)=b.drop (k+1))(e:a[k]=b[k]):a.drop k=b.drop k:=by
 rw[aS ha,aS hb,h,e]
theorem TF(hF:Fits F w)(hA:XD F ra a)(hB:XD F rb b)(da:DG B9 a)(db:DG B9 b)(za:NZ a)(zb:NZ b)(la:a.length<=100000000)(lb:b.length<=100000000):
  Qe prog 167 [ra.v,rb.v] w F (.int .i64 (YG (dv B9 a) (dv B9 b))):=by
 have h91:(1:Int)<B9:=wu;have h90:(0:Int)<B9:=wu;obtain⟨q,n,c⟩:=ra;obtain⟨q',n',c'⟩:=rb;have na:=hA.2.1;have nb:=hB.2.1;dsimp only at na nb;refine QT.intro (G:=λF=>XD F ⟨q,n,c⟩ a/\XD F ⟨q',n',c'⟩ b) func167 rfl wy rfl rfl hF (λF' hF'=>⟨hA.le hF',hB.le hF'⟩) ?_;dsimp only[Sr.v];refine wA 9 I<|QA (Qg I JB)<|QJD I<|QA (Qg I JB)<|QKq 3 I ?_
 refine QO I (λhc=>?_) λhc=>?_
 ·refine wA 4 I<|QA (Qg I JB)<|QJD I<|QA (Qg I JB)<|QKq 3 I ?_
  refine QO I (λhc=>?_) λhc2=>?_
  ·refine wA 6 I ?_;exact QQ () I (wN I) (congrArg (ag .i64) (G6 (ZT h91 da db zb (by simp at hc;omega)))) w8
  refine QKr 8 I ?_;exact QQ () I (wN I) (congrArg (ag .i64) (Ev (ZT h91 db da za (by simp at hc hc2;omega)))) w8
 refine QKr 6 I<|QA (Qg I JB)<|QA (X6 I I O)<|QKq 3 I ?_
 have hab:n=n':=by simp at hc;omega
 refine QV<|YA (ι:=QJJ a b) (λi=>[(0,.slice q n c),(1,.slice q' n' c'),(5,.int .i64 ((i.k:Int)-1))]) (λ_=>[]) (λ_ F=>XD F ⟨q,n,c⟩ a/\XD F ⟨q',n',c'⟩ b) (λi=>i.k) ⟨n,O,by rw[bG O,bG O]⟩ wU QJZ w9 λi=>?_
 have hle:=i.le;refine wA 7 I ?_;refine QO I (λhc=>?_) λhc=>?_
 ·refine QKr 6 I ?_;have hk0:0<i.k:=wk<|QKc hc
  have hka:i.k-1<a.length:=O;have hkb:i.k-1<b.length:=O;refine XQ _ (λ_ _ f h=>h.1.1.ptr (by dsimp only;omega)) (λhq=>?_);obtain⟨qb,qo,hq⟩:=hq;dsimp only at hq;subst hq;refine XQ _ (λ_ _ f h=>h.2.1.ptr (by dsimp only;omega)) (λhq=>?_);obtain⟨qb',qo',hq⟩:=hq;dsimp only at hq;subst hq;refine JK QJZ mixed wm<|QK (QD I)<|QK (QD I)<|QK (JL (i:=i.k-1) rfl wM JB JO O)<|QK (Yj (n:=n) (sz:=1) (cs:=a.map Jn) (u:=.int .i64 a[i.k-1]) I JO (λF h=>h.1.1) O (by simp[hka,Jn]))<|QK (QD I)<|QK (QD I)<|QK (JL (i:=i.k-1) rfl wM JB JO O)<|QK (Yj (n:=n') (sz:=1) (cs:=b.map Jn) (u:=.int .i64 b[i.k-1]) I JO (λF h=>h.2.1) O (by simp[hkb,Jn]))<|QK (QU I I I)<|Q5<|QC ?_
  refine QO I (λhc=>?_) λhca=>?_
  ·refine wA 6 I ?_
   repeat first|refine Q4 ?_|refine Qy ?_
   exact QQ () I (wN I) (congrArg (ag .i64) (G6 (Oc h90 da db O (i.k-1) hka (by rw[show i.k-1+1=i.k by omega];exact i.h) (QKc hc)))) w8
  refine QKr 3 I<|JK QJZ mixed wm<|QK (QD I)<|QK (QD I)<|QK (JL (i:=i.k-1) rfl wM JB JO O)<|QK (Yj (n:=n) (sz:=1) (cs:=a.map Jn) (u:=.int .i64 a[i.k-1]) I JO (λF h=>h.1.1) O (by simp[hka,Jn]))<|QK (QD I)<|QK (QD I)<|QK (JL (i:=i.k-1) rfl wM JB JO O)<|QK (Yj (n:=n') (sz:=1) (cs:=b.map Jn) (u:=.int .i64 b[i.k-1]) I JO (λF h=>h.2.1) O (by simp[hkb,Jn]))<|QK (QU I I I)<|Q5<|QC ?_
  refine QO I (λhc=>?_) λhcb=>?_
  ·refine wA 6 I ?_
   repeat first|refine Q4 ?_|refine Qy ?_
   exact QQ () I (wN I) (congrArg (ag .i64) (Ev (Oc h90 db da O (i.k-1) hkb (by rw[show i.k-1+1=i.k by omega];exact i.h.symm) (QKc hc)))) w8
  refine QN<|Qk<|QKs 3 I<|QA (X6 I I O)<|wB 2 I ?_
  exact Ql (⟨i.k-1,O,QDs hka hkb (by rw[show i.k-1+1=i.k by omega];exact i.h) (by simp at hca hcb;omega)⟩:QJJ a b) (by show i.k-1<i.k;omega) ⟨rfl,rfl,congrArg (λz:Int=>some (ag .i64 z)) (by dsimp only;omega),trivial⟩ QJZ w9
 refine Q2 ?_
 repeat first|refine QY ?_|refine QP wy ?_
 refine QZ<|QKs 7 I ?_
 exact QQ () I (wN I) (congrArg (ag .i64) (by have h0:i.k=0:=(wk<|QKd hc);have e:=i.h;rw[h0]at e;simp at e;rw[e];exact SS _)) w8
def QGn{out:List Int}{c' d:Int}(hl:out.length=i)(h:dv B9 out+dv B9 (b.take i)=dv B9 (a.take i)+B9^i*c)(hd:d=a.getD i 0-b.getD i 0-c+B9*c'):
  dv B9 (out++[d])+dv B9 (b.take (i+1))=dv B9 (a.take (i+1))+B9^(i+1)*c':=by
 rw[ZA,hl,PH,PH,aQ,bV,hd,bL,bK,bK];omega
structure QIE(a b:List Int) where
 i:Nat
 out:List Int
 borrow:Int
 v:Value
 ob:List (Nat×Obj)
 le:i<=a.length
 len:out.length=i
 dg:DG B9 out
 c0:0<=borrow
 c1:borrow<=1
 h:dv B9 out+dv B9 (b.take i)=dv B9 (a.take i)+B9^i*borrow
 hr:Q7 3 1 v out.length (out.map Jn) ob
def QF1{out:List Int}(da:DG B9 out)(hl:out.length=a.length)(hb:b.length<=a.length)(h:dv B9 out+dv B9 (b.take a.length)=dv B9 (a.take a.length)+B9^a.length*c)(h0:0<=c)(h1:c<=1)(hle:dv B9 b<=dv B9 a):dv B9 out=dv B9 a-dv B9 b:=by
 rw[aM,ar hb]at h;have hlt:=Kn (b:=B9) wu da;rw[hl]at hlt;have hc:c=0\/c=1:=O;rcases hc with rfl | rfl
 ·rw[eB]at h;omega
 rw[eH]at h;omega
theorem CF(hF:Fits F w)(hA:XD F ra a)(hB:XD F rb b)(da:DG B9 a)(db:DG B9 b)(la:a.length<=100000000)(lb:b.length<=a.length)(hle:dv B9 b<=dv B9 a):
  jq prog 168 [ra.v,rb.v] w F (λl=>dv B9 l=dv B9 a-dv B9 b/\NZ l/\l.length<=a.length):=by
 obtain⟨q,n,c⟩:=ra;have na:=hA.2.1;have nb:=hB.2.1;dsimp only at na;have h9:B9=1000000000:=rfl;refine QT.intro (G:=λF=>XD F ⟨q,n,c⟩ a/\XD F rb b) func168 rfl wy rfl rfl hF (λF' hF'=>⟨hA.le hF',hB.le hF'⟩) ?_;dsimp only[Sr.v];refine wA 22 I ?_;refine YA (ι:=QIE a b) (λi=>[(0,.slice q n c),(1,.slice rb.q rb.n rb.cap),(5,i.v),(6,.int .i64 i.borrow),(7,.int .i64 (i.i:Int))]) (λi=>i.ob) (λ_ F=>XD F ⟨q,n,c⟩ a/\XD F rb b) (λi=>a.length-i.i)
  ⟨0,[],0,.slice none 0 0,[],aK _,rfl,DG.nil _,wu,wu,wz,.nil⟩ wW tD w9 λi=>?_
 have hile:=i.le;have hlen:=i.len;have hc0:=i.c0;have hc1:=i.c1;refine wA 5 I<|QA (Qg I JB)<|QKq 3 I ?_
 refine QO I (λhc=>?_) λhc=>?_
 ·have hi:i.i<n:=wk<|QKc hc
  have hia:i.i<a.length:=O;have b1:=xL da i.i;have b2:=xL db i.i;have e1:a[i.i]=a.getD i.i 0:=by simp[hia]
  refine XQ _ (λ_ _ f h=>h.1.1.ptr (by dsimp only;omega)) (λhq=>?_);obtain⟨qb,qo,hq⟩:=hq;dsimp only at hq;subst hq;refine QKr 5 I<|JK QJZ mixed wm<|QK (QD I)<|QK (QD I)<|QK (JL (i:=i.i) rfl rfl JB JO O)<|QK (Yj (n:=n) (sz:=1) (cs:=a.map Jn) (u:=.int .i64 (a.getD i.i 0)) I JO (λF h=>h.1.1) O (by simp[hia,Jn]))<|QK (QD I)<|QK (QD I)<|QM I (λ_ _ f k=>z6 (r:=rb) (l:=b) f k.2 O) λ_=>QK (X6 I I O)<|QK (QD I)<|QK (X6 I I O)<|QK (QF I)<|Q5<|QKs 7 I ?_
  refine wA 6 I ?_;refine QO I (λhs=>?_) λhs=>?_
  ·refine wR I<|QA (Qv I I O)<|wQ I<|QB<|QKq 6 I<|Qb I (Qz JB) JO Pp I I λb31=>?_
   refine Ys (bs1:=[]) (ob:=i.ob) (k:=1) (sz:=1) (news:=[.int .i64 ((a.getD i.i 0-b.getD i.i 0-i.borrow)+1000000000)]) I I JB JO Pp I Og i.hr (Src.row (off:=0) tB (λj v hv=>by rw[aU];show([ag .i64 ((a.getD i.i 0-b.getD i.i 0-i.borrow)+1000000000)].toArray)[j]?=some v;rw[aE];exact hv) rfl) O O (λu hu=>by rw[List.mem_singleton.1 hu];rfl) (λv' ob' hr'=>?_);refine wB 2 I<|Qk<|QKs 3 I<|QA (Qv I I O)<|wB 2 I ?_
   exact Ql (⟨i.i+1,i.out++[((a.getD i.i 0-b.getD i.i 0-i.borrow)+1000000000)],1,v',ob',O,by simp[hlen],i.dg.append (DG.cons (wk<|QKc hs) (by have:=QKc hs;rw[h9];omega) (DG.nil _)),wu,wu,QGn hlen i.h (by rw[h9];omega),by simpa[Jn]using hr'⟩:QIE a b) (by show a.length-(i.i+1)<a.length-i.i;omega) wW QJZ λF h=>h.1.1
  refine QKr 5 I<|Qb I (Qz JB) JO Pp I I λb31=>?_
  refine Ys (bs1:=[]) (ob:=i.ob) (k:=1) (sz:=1) (news:=[.int .i64 (a.getD i.i 0-b.getD i.i 0-i.borrow)]) I I JB JO Pp I Og i.hr (Src.row (off:=0) tB (λj v hv=>by rw[aU];show([ag .i64 (a.getD i.i 0-b.getD i.i 0-i.borrow)].toArray)[j]?=some v;rw[aE];exact hv) rfl) O O (λu hu=>by rw[List.mem_singleton.1 hu];rfl) (λv' ob' hr'=>?_);refine wB 2 I<|Qk<|QKs 3 I<|QA (Qv I I O)<|wB 2 I ?_
  exact Ql (⟨i.i+1,i.out++[(a.getD i.i 0-b.getD i.i 0-i.borrow)],0,v',ob',O,by simp[hlen],i.dg.append (DG.cons (wk<|QKd hs) (by have:=QKd hs;rw[h9];omega) (DG.nil _)),wu,wu,QGn hlen i.h (by rw[h9];omega),by simpa[Jn]using hr'⟩:QIE a b) (by show a.length-(i.i+1)<a.length-i.i;omega) wW QJZ λF h=>h.1.1
 refine Q2 ?_
 repeat first|refine QY ?_|refine QP wy ?_
 refine QZ<|QC<|QG ?_
 obtain⟨r,hv,hrn,hrc,hfix⟩:=Q7.fix (w0:=w) (F0:=F) (bs1:=[]) (G:=λF=>XD F ⟨q,n,c⟩ a/\XD F rb b) i.hr;have hex:i.i=a.length:=wk<|QKd hc
 have hlz:=Ve i.out;refine jy hfix ?_;rw[hv];refine wA 2 I<|QI I (λ_ _ f k=>UN (r:=r) (l:=i.out) f ⟨by rw[hrn];exact k.2,hrn.symm,O⟩ O) λc34=>wQ I<|QW ?_
 exact QQ ((⟨r.q,(Je i.out).length,r.cap⟩,Je i.out):Sr×List Int) rfl (wN I) rfl λF h=>⟨h.2,i.dg.Je,by show dv B9 (Je i.out)=_;rw[ZH];exact QF1 i.dg O lb (by have e:=i.h;rw[hex]at e;exact e) hc0 hc1 hle,Zv _,by show(Je i.out).length<=_;omega⟩
def Is(la lb:List Int)(i j:Nat)(x:Int)(o:List Int)(c:Int):Prop :=
 o.length=la.length+lb.length/\DG B9 o/\(∀p,i+lb.length<=p->Qm o p=0)/\(0<=c/\c<B9) /\
  dv B9 o+B9^(i+j)*c=dv B9 (la.take i)*dv B9 lb+B9^i*(x*dv B9 (lb.take j))
def XU:(0:Int)<B9:=wu
theorem QC9{x y o:Int}(hx:0<=x/\x<B9)(hy:0<=y/\y<B9)(ho:0<=o/\o<B9)(hc:0<=c/\c<B9):0<=x*y/\x*y<=999999998000000001/\0<=o+x*y+c/\(o+x*y+c)/B9<B9:=by
 have h9:B9=1000000000:=rfl;have h0:=bP hx.1 hy.1;have h1:x*y<=(B9-1)*(B9-1):=bQ O O hy.1 O;generalize x*y=m at *
 have q:=h9 ▸ hx.2;generalize hB:B9=B at *
 subst h9;omega
theorem Is.step{la lb:List Int}{j:Nat}{x s:Int}(h:Is la lb i j x o c)(hx:0<=x/\x<B9)(hb:DG B9 lb)(hj:j<lb.length)(hi:i<la.length)(hs:s=Qm o (i+j)+x*Qm lb j+c):
  Is la lb i (j+1) x (o.set (i+j) (s%B9)) (s/B9):=by
 obtain⟨h1,h2,h3,h4,h5⟩:=h;obtain⟨m0,m1,m2,m3⟩:=QC9 hx (hb.Qm XU j) (h2.Qm XU (i+j)) h4;rw[<-hs]at m2 m3;refine⟨by simpa using h1,h2.set _ (bY _ wu) (bR _ XU),?_,⟨bB m2 wu,m3⟩,?_⟩
 ·intro p hp;rw[Ep O,if_neg O];exact h3 p hp
 rw[Ry B9 O,Hs,<-bU,aQ];have e0:s%B9+B9*(s/B9)=s:=bH s B9;generalize s%B9=lo at *
 generalize s/B9=hi at *
 have e:B9^(i+j)*(lo+B9*hi)=B9^(i+j)*(Qm o (i+j)+x*Qm lb j+c):=by rw[e0,hs]
 rw[eG]at *
 generalize B9^i=u at *
 generalize B9^j=v at *
 generalize B9=B at *
 grind
theorem Is.row{la lb:List Int}{x:Int}(h:Is la lb i lb.length x o c)(hi:i<la.length)(hx:x=Qm la i):
  Is la lb (i+1) 0 0 (o.set (i+lb.length) c) 0:=by
 obtain⟨h1,h2,h3,h4,h5⟩:=h;refine⟨by simpa using h1,h2.set _ h4.1 h4.2,?_,⟨bT _,XU⟩,?_⟩
 ·intro p hp;rw[Ep O,if_neg O];exact h3 p O
 rw[Ry B9 O,h3 _ (av _),Hs,<-hx];rw[aM]at h5;simp only[eB,Int.add_zero,fG,Int.sub_zero];rw[h5];generalize B9^i=u at *
 generalize B9=B at *
 grind
def Is.start(la lb:List Int):Is la lb 0 0 0 (aR (la.length+lb.length) 0) 0:=by
 refine⟨wz,DG.replicate XU _,?_,⟨bT _,XU⟩,by rw[Tk];simp⟩;intro p _;unfold Qm;split<;>simp
def Is.next{la lb:List Int}(h:Is la lb i 0 0 o 0)(x:Int):Is la lb i 0 x o 0:=by
 obtain⟨h1,h2,h3,h4,h5⟩:=h;exact⟨h1,h2,h3,h4,by simpa using h5⟩
def Is.stop{la lb:List Int}(h:Is la lb i 0 0 o 0)(hi:la.length<=i):dv B9 o=dv B9 la*dv B9 lb:=by
 have e:=h.2.2.2.2;rw[ar hi]at e;simpa using e
structure QI9(a b:List Int) where
 i:Nat
 o:List Int
 le:i<=a.length
 h:Is a b i 0 0 o 0
structure QI8(a b:List Int)(i:Nat) where
 j:Nat
 o:List Int
 c:Int
 le:j<=b.length
 h:Is a b i j (Qm a i) o c
theorem UP(hF:Fits F w)(hA:XD F ra a)(hB:XD F rb b)(da:DG B9 a)(db:DG B9 b)(la:a.length<=100000000)(lb:b.length<=100000000):
  jq prog 169 [ra.v,rb.v] w F (λl=>dv B9 l=dv B9 a*dv B9 b/\NZ l/\l.length<=a.length+b.length):=by
 obtain⟨q,n,c⟩:=ra;obtain⟨q',n',c'⟩:=rb;have na:=hA.2.1;have nb:=hB.2.1;dsimp only at na nb;have h9:B9=1000000000:=rfl;refine QT.intro (G:=λF=>XD F ⟨q,n,c⟩ a/\XD F ⟨q',n',c'⟩ b) func169 rfl wy rfl rfl hF (λF' hF'=>⟨hA.le hF',hB.le hF'⟩) ?_;dsimp only[Sr.v];refine wA 8 I<|QA (Qg I JB)<|QJD I<|QA (Qg I JB)<|QA (Qv I I O)<|M3 (n:=n+n') (bytes:=8) rfl rfl JB JO Pp I Og O O λbk=>?_
 rw[show XY [ag .i64 0] (n+n')=(aR (a.length+b.length) (0:Int)).map Jn by rw[UA,na,nb];simp[Jn]];refine QKq 10 I ?_;refine YA (ι:=QI9 a b) (λi=>[(0,.slice q n c),(1,.slice q' n' c'),(5,.slice (some ⟨bk,0,none⟩) (n+n') (n+n')),(6,.int .i64 (i.i:Int))]) (λi=>[(bk,.cells (i.o.map Jn).toArray 3 (0,0))]) (λ_ F=>XD F ⟨q,n,c⟩ a/\XD F ⟨q',n',c'⟩ b) (λi=>a.length-i.i)
  ⟨0,_,aK _,Is.start a b⟩ wV QJZ w9 λi=>?_
 have hile:=i.le;refine wA 5 I<|QA (Qg I JB)<|QKq 3 I ?_
 refine QO I (λhc=>?_) λhc=>?_
 ·have hi:i.i<n:=wk<|QKc hc
  have hia:i.i<a.length:=O;refine XQ _ (λ_ _ f h=>h.1.1.ptr (by dsimp only;omega)) (λhq=>?_);obtain⟨qb,qo,hq⟩:=hq;dsimp only at hq;subst hq;refine QKr 16 I ?_;refine YA (ι:=QI8 a b i.i) (λi2=>[(0,.slice (some ⟨qb,qo,none⟩) n c),(1,.slice q' n' c'),(5,.slice (some ⟨bk,0,none⟩) (n+n') (n+n')),(6,.int .i64 (i.i:Int)),(7,.int .i64 i2.c),(8,.int .i64 (i2.j:Int))]) (λi2=>[(bk,.cells (i2.o.map Jn).toArray 3 (0,0))]) (λ_ F=>XD F ⟨some ⟨qb,qo,none⟩,n,c⟩ a/\XD F ⟨q',n',c'⟩ b) (λi2=>b.length-i2.j)
   ⟨0,i.o,0,aK _,i.h.next _⟩ wX QJZ w9 λi2=>?_
  have hjle:=i2.le;have hol:i2.o.length=a.length+b.length:=i2.h.1;have hcc:=i2.h.2.2.2.1;refine wA 5 I<|QA (Qg I JB)<|QKq 3 I ?_
  refine QO I (λhc=>?_) λhc=>?_
  ·have hj:i2.j<n':=wk<|QKc hc
   have hjb:i2.j<b.length:=O;have hko:i.i+i2.j<i2.o.length:=O;have bx:=da.Qm XU i.i;have by':=db.Qm XU i2.j;have bo:=i2.h.2.1.Qm XU (i.i+i2.j);have bd:=QC9 bx by' bo hcc;have hst:=i2.h.step bx db hjb hia rfl;refine XQ _ (λ_ _ f h=>h.2.1.ptr (by dsimp only;omega)) (λhq=>?_);obtain⟨qb',qo',hq⟩:=hq;dsimp only at hq;subst hq;refine QKr 5 I<|JK QJZ mixed wm<|QK (QD I)<|QK (QD I)<|QK (QD I)<|QK (Qv I I O)<|QK (JL (i:=i.i+i2.j) rfl rfl JB JO O)<|QK (Vz (c:=i2.o.map Jn) (T':=3) rfl JO .here (Tr hko))<|QK (QD I)<|QK (QD I)<|QK (JL (i:=i.i) rfl rfl JB JO O)<|QK (Yj (n:=n) (sz:=1) (cs:=a.map Jn) rfl JO (λF h=>h.1.1) O (J6 hia))<|QK (QD I)<|QK (QD I)<|QK (JL (i:=i2.j) rfl rfl JB JO O)<|QK (Yj (n:=n') (sz:=1) (cs:=b.map Jn) rfl JO (λF h=>h.2.1) O (J6 hjb))<|QK (N0 I I O)<|QK (Qv I I O)<|QK (QD I)<|QK (Qv I I O)<|QK (QF I) ?_
   refine Q5<|QKs 6 I<|QA (Qv I I O)<|QJD I<|QA (Hp I I O O)<|QA (JL (i:=i.i+i2.j) rfl rfl JB JO O)<|QR (vs:=[_]) I I I JO I .here (SQ hko _) wS<|QKq 4 I<|QA (Sd I I O O O)<|wB 2 I<|Qk<|QKs 3 I<|QA (Qv I I O)<|QJE I ?_
   refine QE ?_;exact Ql (⟨i2.j+1,i2.o.set (i.i+i2.j) _,_,O,hst⟩:QI8 a b i.i) (by show b.length-(i2.j+1)<b.length-i2.j;omega) wX QJZ w9
  have hjn:i2.j=b.length:=wk<|QKd hc
  have hko2:i.i+n'<i2.o.length:=O;have hrow:Is a b (i.i+1) 0 0 (i2.o.set (i.i+n') i2.c) 0:=by
   have e:=i2.h;rw[hjn]at e;have:=e.row hia rfl
   rwa [nb]at this
  have hz:Qm i2.o (i.i+n')=0:=i2.h.2.2.1 _ O;refine Q2 ?_
  repeat first|refine QY ?_|refine QP wy ?_
  refine QZ<|QKs 5 I<|QA (Qg I JB)<|QA (Qv I I O)<|wB 3 I<|QA (Qg I JB)<|QA (Qv I I O)<|QA (JL (i:=i.i+n') rfl rfl JB JO O)<|QA (Vz (c:=i2.o.map Jn) (T':=3) rfl JO .here (Tr hko2))<|QJD I<|QA (Qv I I O)<|QA (JL (i:=i.i+n') rfl rfl JB JO O)<|QR (vs:=[_]) I I I JO I .here (SQ hko2 _) wS<|QE<|Qk<|QKs 3 I<|QA (Qv I I O) ?_
  refine wB 2 I ?_;exact Ql (⟨i.i+1,i2.o.set (i.i+n') i2.c,O,hrow⟩:QI9 a b) (by show a.length-(i.i+1)<a.length-i.i;omega) wV (by rw[hz,fH];exact fP _) w9
 refine Q2 ?_
 repeat first|refine QY ?_|refine QP wy ?_
 refine QZ<|QC<|QG ?_
 have hex:a.length<=i.i:=wk<|QKd hc
 have hol:i.o.length=a.length+b.length:=i.h.1;have hr:Q7 3 1 (.slice (some ⟨bk,0,none⟩) (n+n') (n+n')) (n+n') (i.o.map Jn) [(bk,.cells (i.o.map Jn).toArray 3 (0,0))]:=by
  have:=Q7.some (T:=3) (sz:=1) (b:=bk) (n:=n+n') (cap:=n+n') (l:=i.o.map Jn) (rest:=[]) w6 w6 (av _) (bm (show n+n'<=200000000 by omega) wu);simpa using this
 obtain⟨r,hv,hrn,hrc,hfix⟩:=Q7.fix (w0:=w) (F0:=F) (bs1:=[]) (G:=λF=>XD F ⟨q,n,c⟩ a/\XD F ⟨q',n',c'⟩ b) hr;have hlz:=Ve i.o;refine jy hfix ?_;rw[hv];refine wA 2 I<|QI I (λ_ _ f k=>UN (r:=r) (l:=i.o) f ⟨by rw[hrn];exact k.2,by rw[hrn];omega,O⟩ O) λc71=>wQ I<|QW ?_
 exact QQ ((⟨r.q,(Je i.o).length,r.cap⟩,Je i.o):Sr×List Int) rfl (wN I) rfl λF h=>⟨h.2,i.h.2.1.Je,by show dv B9 (Je i.o)=_;rw[ZH];exact i.h.stop hex,Zv _,by show(Je i.o).length<=_;omega⟩
structure QJI(a:List Int)(d:Int) where
 k:Nat
 o:List Int
 r:Int
 le:k<=a.length
 len:o.length=a.length
 dg:DG B9 o
 r0:0<=r
 r1:r<d
 h:dv B9 (a.drop k)=d*dv B9 (o.drop k)+r
def set_drop{p:Nat}(h:p<o.length)(v:Int):(o.set p v).drop p=v::o.drop (p+1):=by
 rw[aS (by simpa using h)];congr 1
 ·simp
 rw[aY O]
def QGQ{r d x:Int}(r0:0<=r)(r1:r<d)(hd:d<B9)(hx:0<=x/\x<B9):0<=r*B9+x/\0<=(r*B9+x)/d/\(r*B9+x)/d<B9/\0<=(r*B9+x)%d/\(r*B9+x)%d<d:=by
 have h0:0<=r*B9:=bP r0 wu;refine⟨O,bB O O,bZ O ?_,bY _ O,bR _ O⟩;have h1:(r+1)*B9<=d*B9:=aA O wu;rw[ei,aX]at h1;rw[aJ B9 d];omega
theorem QHq{d r s:Int}{p:Nat}(hp:p<a.length)(ho:p<o.length)(h:dv B9 (a.drop (p+1))=d*dv B9 (o.drop (p+1))+r)(hs:s=r*B9+Qm a p):
  dv B9 (a.drop p)=d*dv B9 ((o.set p (s/d)).drop p)+s%d:=by
 rw[set_drop ho,aS hp,<-YR hp];simp only[dv];rw[h];have e:s%d+d*(s/d)=s:=bH s d;generalize s/d=u at *
 generalize s%d=v at *
 generalize B9=B at *
 grind
theorem jv{d:Int}(hF:Fits F w)(hA:XD F ra a)(da:DG B9 a)(la:a.length<=100000000)(d0:0<d)(d1:d<B9):
  QT prog 257 [ra.v,.int .i64 d] w F (λ(c:(Sr×List Int)×Int)=>.tuple [.slice c.1.1.q c.1.1.n c.1.1.cap,.int .i64 c.2].toArray) (λc F=>XD F c.1.1 c.1.2/\DG B9 c.1.2/\NZ c.1.2/\0<=c.2/\c.2<d/\dv B9 a=d*dv B9 c.1.2+c.2/\c.1.2.length<=a.length):=by
 obtain⟨q,n,c⟩:=ra;have na:=hA.2.1;dsimp only at na;have h9:B9=1000000000:=rfl;refine QT.intro (G:=λF=>XD F ⟨q,n,c⟩ a) func257 rfl wy rfl rfl hF (λF' hF'=>hA.le hF') ?_;dsimp only[Sr.v];refine wA 9 I<|QA (Qg I JB)<|M3 (n:=n) (bytes:=8) rfl rfl JB JO Pp I Og O O λbk=>?_
 rw[show XY [ag .i64 0] n=(aR a.length (0:Int)).map Jn by rw[UA,na];simp[Jn]];refine QKq 12 I<|QA (Qg I JB)<|QA (X6 I I O)<|wQ I<|QV ?_
 refine YA (ι:=QJI a d) (λi=>[(0,.slice q n c),(1,.int .i64 d),(6,.slice (some ⟨bk,0,none⟩) n n),(7,.int .i64 i.r),(8,.int .i64 ((i.k:Int)-1))]) (λi=>[(bk,.cells (i.o.map Jn).toArray 3 (0,0))]) (λ_ F=>XD F ⟨q,n,c⟩ a) (λi=>i.k)
  ⟨n,aR a.length 0,0,O,wz,DG.replicate XU _,bT _,d0,by rw[bG O,bG w6];simp[dv]⟩ wW QJZ w9 λi=>?_
 have hile:=i.le;have hol:=i.len;have hr0:=i.r0;have hr1:=i.r1;refine wA 7 I ?_;refine QO I (λhc=>?_) λhc=>?_
 ·have hk0:0<i.k:=wk<|QKc hc
  have hka:i.k-1<a.length:=O;have hko:i.k-1<i.o.length:=O;have bx:=da.Qm XU (i.k-1);have bd:=QGQ hr0 hr1 d1 bx;rw[h9]at bd;have hst:=QHq (d:=d) (r:=i.r) (s:=i.r*1000000000+Qm a (i.k-1)) hka hko (by rw[show i.k-1+1=i.k by omega];exact i.h) rfl;refine XQ _ (λ_ _ f h=>h.1.ptr (by dsimp only;omega)) (λhq=>?_);obtain⟨qb,qo,hq⟩:=hq;dsimp only at hq;subst hq;refine QKr 7 I<|QA (N0 I I O)<|wB 2 I<|QA (JL (i:=i.k-1) rfl wM JB JO O)<|QA (Yj (n:=n) (sz:=1) (cs:=a.map Jn) rfl JO tA O (J6 hka))<|QA (Qv I I O)<|QKq 9 I<|QA (Sd I I O O O)<|QA (JL (i:=i.k-1) rfl wM JB JO O)<|QR (vs:=[_]) I I I JO I .here (SQ hko _) wS ?_
  refine QKq 5 I<|QA (Hp I I O O)<|wB 2 I<|Qk<|QKs 3 I<|QA (X6 I I O)<|wB 2 I ?_
  exact Ql (⟨i.k-1,i.o.set (i.k-1) ((i.r*1000000000+Qm a (i.k-1))/d),(i.r*1000000000+Qm a (i.k-1))%d,O,by simpa using hol,i.dg.set _ bd.2.1 bd.2.2.1,bd.2.2.2.1,bd.2.2.2.2,hst⟩:QJI a d) (by show i.k-1<i.k;omega) ⟨rfl,rfl,rfl,rfl,congrArg (λz:Int=>some (ag .i64 z)) (by dsimp only;omega),trivial⟩ QJZ w9
 refine Q2 ?_
 repeat first|refine QY ?_|refine QP wy ?_
 refine QZ<|QC<|QG ?_
 have hex:i.k=0:=wk<|QKd hc
 have hr:Q7 3 1 (.slice (some ⟨bk,0,none⟩) n n) n (i.o.map Jn) [(bk,.cells (i.o.map Jn).toArray 3 (0,0))]:=by
  have:=Q7.some (T:=3) (sz:=1) (b:=bk) (n:=n) (cap:=n) (l:=i.o.map Jn) (rest:=[]) w6 w6 (av _) (bm (show n<=200000000 by omega) wu);simpa using this
 obtain⟨r,hv,hrn,hrc,hfix⟩:=Q7.fix (w0:=w) (F0:=F) (bs1:=[]) (G:=λF=>XD F ⟨q,n,c⟩ a) hr;have hlz:=Ve i.o;have hfin:=i.h;rw[hex,bD,bD]at hfin;refine jy hfix ?_;rw[hv];refine wA 2 I<|QI I (λ_ _ f k=>UN (r:=r) (l:=i.o) f ⟨by rw[hrn];exact k.2,by rw[hrn];omega,O⟩ O) λc37=>QKq 6 I ?_
 exact JY (((⟨r.q,(Je i.o).length,r.cap⟩,Je i.o),i.r):(Sr×List Int)×Int) rfl (wO I I) rfl λF h=>⟨h.2,i.dg.Je,Zv _,hr0,hr1,by show _=d*dv B9 (Je i.o)+i.r;rw[ZH];exact hfin,by show(Je i.o).length<=_;omega⟩
theorem QHm{v:List Int}{r:Int}(h:H4 B9 u v n)(t0:0<=t)(e:t*Qm v (n+1)+r=Qm u (n+2)*B9+Qm u (n+1))(hc:r*B9+Qm u n<t*Qm v n):dv B9 u<t*dv B9 v:=by
 obtain⟨a1,a2,a3⟩:=Ky (b:=B9) wu h.hu h.lu;obtain⟨b1,b2,b3⟩:=Wq (b:=B9) wu h.hv h.lv;rw[a1,b1];refine F5 b2 a3 (pow_pos XU n) t0 ?_;rw[<-e];generalize B9=B at *
 grind
theorem QIq{v:List Int}(h:H4 B9 u v n)(ht:B9<=t):dv B9 u<t*dv B9 v:=by
 have h0:=JJ (b:=B9) wu h.hv;have h1:B9*dv B9 v<=t*dv B9 v:=aA ht h0;have:=h.lt;omega
theorem QGM{v:List Int}(h:H4 B9 u v n)(t0:0<=t)(ht:Qm u (n+2)*B9+Qm u (n+1)<(t+1)*Qm v (n+1)):dv B9 u<(t+1)*dv B9 v:=by
 obtain⟨a1,a2,a3⟩:=Ky (b:=B9) wu h.hu h.lu;obtain⟨b1,b2,b3⟩:=Wq (b:=B9) wu h.hv h.lv;rw[a1,b1];refine F5 b2 a3 (pow_pos XU n) O ?_;have d1:=h.hu.Qm XU n;have d2:=h.hv.Qm XU n;have e1:0<=(t+1)*Qm v n:=bP O d2.1;have e2:(Qm u (n+2)*B9+Qm u (n+1)+1)*B9<=(t+1)*Qm v (n+1)*B9:=aA O wu;generalize B9=B at *
 generalize Qm u (n+2)=u0 at *
 generalize Qm u (n+1)=u1 at *
 generalize Qm u n=u2 at *
 generalize Qm v (n+1)=v1 at *
 generalize Qm v n=v2 at *
 grind
theorem QGr{v:List Int}{r:Int}(h:H4 B9 u v n)(t0:0<=t)(t1:t<B9)(e:t*Qm v (n+1)+r=Qm u (n+2)*B9+Qm u (n+1))(hc:t*Qm v n<=r*B9+Qm u n):(t-1)*dv B9 v<=dv B9 u:=by
 obtain⟨a1,a2,a3⟩:=Ky (b:=B9) wu h.hu h.lu;obtain⟨b1,b2,b3⟩:=Wq (b:=B9) wu h.hv h.lv;rw[a1,b1];have d2:=h.hv.Qm XU n;have d3:1*B9<=Qm v (n+1)*B9:=aA (wk h.nz) wu;refine Cd (pow_pos XU n) b3 a2 t0 ?_ O b2;rw[<-e];generalize B9=B at *
 grind
def QDP(u v:List Int)(t:Int):Prop:=0<=t/\t<B9/\(t-1)*dv B9 v<=dv B9 u/\dv B9 u<(t+1)*dv B9 v
structure GuI(u v:List Int)(m:Nat) where
 t:Int
 r:Int
 t0:0<=t
 r0:0<=r
 r1:r<B9
 t2:t<=1000000000000000000
 e:t*Qm v (m+1)+r=Qm u (m+2)*B9+Qm u (m+1)
 h:dv B9 u<(t+1)*dv B9 v
def kj{U:List Int}{j m:Nat}(h:k<m):Qm ((U.drop j).take m) k=Qm U (j+k):=by
 by_cases g:j+k<U.length
 ·rw[YR w6,YR g];simp
 rw[Mk w6,Mk O]
def QDC{v:List Int}{r:Int}(h:H4 B9 u v n)(t0:0<=t)(e:t*Qm v (n+1)+r=Qm u (n+2)*B9+Qm u (n+1))(hr:B9<=r)(hu:dv B9 u<(t+1)*dv B9 v):QDP u v t:=by
 have ht:=h.top wu;have d0:=h.hu.Qm XU n;have d1:=h.hu.Qm XU (n+1);have d2:=h.hv.Qm XU n;have hn:=h.nz;have e1:Qm u (n+2)*B9<=Qm v (n+1)*B9:=aA ht wu;have t1:t<B9:=by
  refine Int.not_le.1 λhc=>?_;have e2:B9*Qm v (n+1)<=t*Qm v (n+1):=aA hc O;rw[aJ]at e2;omega
 refine⟨t0,t1,QGr h t0 t1 e ?_,hu⟩;have e3:t*Qm v n<=B9*B9:=bQ O O d2.1 wu;have e4:B9*B9<=r*B9:=aA hr wu;omega
theorem gv{v:List Int}(hu:DG B9 u)(t0:0<=t)(h:dv B9 u<t*dv B9 v):0<=t-1:=by
 have:=JJ (b:=B9) wu hu;rcases bM 0 t with g | g
 ·omega
 have e:t=0:=O;subst e;rw[fG]at h;omega
theorem QEW{rest:List Value}{w0:World}{F0:Gs}{G:Gs->Prop}{bs:List (Nat×Obj)}{bu nu cu j m:Nat}{rv:Sr}{U v:List Int}(hU:U.length=nu)(hj:j+m+3<=nu)(hn:nu<=1000000000)(hG:∀F,G F->XD F rv v)(hS:H4 B9 ((U.drop j).take (m+3)) v m):
  XG prog 259 [.slice (some ⟨bu,0,none⟩) nu cu,rv.v,.int .i64 (j:Int)] ⟨w0,F0,(bu,.cells (U.map Jn++rest).toArray 3 (0,0))::bs,G⟩ (λt:Int=>.int .i64 t) (λt=>⟨w0,F0,(bu,.cells (U.map Jn++rest).toArray 3 (0,0))::bs,λF=>G F/\QDP ((U.drop j).take (m+3)) v t⟩):=by
 obtain⟨q,n,c⟩:=rv;have hlv:=hS.lv;have h9:B9=1000000000:=rfl;have u2:Qm ((U.drop j).take (m+3)) (m+2)=Qm U (j+(m+2)):=kj O;have u1:Qm ((U.drop j).take (m+3)) (m+1)=Qm U (j+(m+1)):=kj O;have u0:Qm ((U.drop j).take (m+3)) m=Qm U (j+m):=kj O;have b2:=hS.hu.Qm XU (m+2);have b1:=hS.hu.Qm XU (m+1);have b0:=hS.hu.Qm XU m;have c1:=hS.hv.Qm XU (m+1);have c0:=hS.hv.Qm XU m;have nz:=hS.nz;refine XG.intro func259 rfl rfl rfl rfl ?_;dsimp only[Sr.v];refine XQ _ (λ_ F f h=>(hG F h).2.1) (λhnv=>?_);dsimp only at hnv;obtain rfl:n=m+2:=O;refine XQ _ (λ_ F f h=>(hG F h).1.ptr (by dsimp only;omega)) (λhq=>?_);obtain⟨qb,qo,hq⟩:=hq;dsimp only at hq;subst hq;refine wA 8 I<|QA (Qg I JB)<|wQ I<|QG<|JK QJZ mixed wm<|QK (QD I)<|QK (QD I)<|QK (QD I)<|QK (Qv I I O)<|QK (JL (i:=j+(m+2)) I wM JB JO O)<|QK (Vz (v:=.int .i64 (Qm ((U.drop j).take (m+3)) (m+2))) (c:=U.map Jn++rest) (T':=3) rfl JO .here (by rw[u2];exact WQ O))<|QK (N0 I I O)<|QK (QD I)<|QK (QD I)<|QK (QD I)<|QK (Qv I I O) ?_
 refine QK (X6 I I O)<|QK (JL (i:=j+(m+1)) I wM JB JO O)<|QK (Vz (v:=.int .i64 (Qm ((U.drop j).take (m+3)) (m+1))) (c:=U.map Jn++rest) (T':=3) rfl JO .here (by rw[u1];exact WQ O))<|QK (Qv I I O)<|QK (QF I)<|Q5<|QC<|QG<|JK QJZ mixed wm<|QK (QD I)<|QK (QD I)<|QK (QD I)<|QK (X6 I I O)<|QK (JL (i:=m+1) rfl wM JB JO O)<|QK (Yj (n:=m+2) (sz:=1) (cs:=v.map Jn) rfl JO (λF h=>(hG F h).1) O (J6 (show m+1<v.length by omega)))<|QK (Sd I I O O O)<|QK (QD I)<|QK (QD I)<|QK (QD I)<|QK (X6 I I O)<|QK (JL (i:=m+1) rfl wM JB JO O)<|QK (Yj (n:=m+2) (sz:=1) (cs:=v.map Jn) rfl JO (λF h=>(hG F h).1) O (J6 (show m+1<v.length by omega)))<|QK (Hp I I O O)<|QK (QF I)<|QK (QF I) ?_
 refine Q5<|QKs 3 I ?_
 refine YA (ι:=GuI ((U.drop j).take (m+3)) v m) (λi=>[(0,.slice (some ⟨bu,0,none⟩) nu cu),(1,.slice (some ⟨qb,qo,none⟩) (m+2) c),(2,.int .i64 (j:Int)),(7,.int .i64 ((m+2:Nat):Int)),(9,.int .i64 i.t),(10,.int .i64 i.r)]) (λ_=>(bu,.cells (U.map Jn++rest).toArray 3 (0,0))::bs) (λ_=>G) (λi=>i.t.toNat)
  ⟨(Qm ((U.drop j).take (m+3)) (m+2)*1000000000+Qm ((U.drop j).take (m+3)) (m+1))/Qm v (m+1),(Qm ((U.drop j).take (m+3)) (m+2)*1000000000+Qm ((U.drop j).take (m+3)) (m+1))%Qm v (m+1),bB O O,bY _ O,fI (bR _ nz) c1.2,Int.le_trans (bI (a:=(Qm ((U.drop j).take (m+3)) (m+2)*1000000000+Qm ((U.drop j).take (m+3)) (m+1))) _ O) O,by rw[aJ,Int.add_comm];exact bH _ _,QGM hS (bB O O) (Int.lt_ediv_add_one_mul_self _ nz)⟩ wX QJZ w9 λi=>?_
 have t0:=i.t0;have r0:=i.r0;have r1:=i.r1;have t2:=i.t2;refine QG<|QG<|JK QJZ mixed wm<|QK (QD I)<|QK (QU I I I)<|QK (QD I) ?_
 refine E7 (t:=44) rfl (λhb44=>?_) λhb44=>?_
 ·refine XP I I I<|XP I I I<|XP I I I<|XP I I I<|XP I I I<|XP I I I<|XP I I I<|XP I I I<|XP I I I<|XP I I I<|XP I I I<|XP I I I<|XP I I I<|XP I I I<|XP I I I<|XP I I I<|XP I I I<|XP I I I<|QK (Qj I I I)<|Q5<|QC<|C9 I ?_
  have hl:dv B9 ((U.drop j).take (m+3))<i.t*dv B9 v:=QIq hS (wk<|QKc hb44);refine QKr 6 I<|QA (X6 I I O)<|QKq 8 I<|QA (X6 I I O)<|QA (JL (i:=m+1) rfl wM JB JO O)<|QA (Yj (n:=m+2) (sz:=1) (cs:=v.map Jn) rfl JO (λF h=>(hG F h).1) O (J6 (show m+1<v.length by omega)))<|QA (Qv I I O)<|QKq 6 I ?_
  refine QKq 3 I ?_;refine QO I (λhc=>?_) λhc=>?_
  ·refine wA 7 I ?_
   repeat first|refine Q4 ?_|refine Qy ?_
   exact Y2 (i.t-1) rfl (wN I) rfl λw h=>h.imp QJZ λF h=>⟨h,QDC (r:=i.r+Qm v (m+1)) hS (gv hS.hu t0 hl) (by rw[ef,aX,<-i.e];omega) (wk<|QKc hc) (by rw[bO];exact hl)⟩
  refine QN<|Qk ?_
  exact Ql (⟨i.t-1,i.r+Qm v (m+1),(gv hS.hu t0 hl),O,wk<|QKd hc,O,(by rw[ef,aX,<-i.e];omega),(by rw[bO];exact hl)⟩:GuI ((U.drop j).take (m+3)) v m) (by show(i.t-1).toNat<i.t.toNat;have:=(gv hS.hu t0 hl);omega) wX QJZ w9
 have tb:i.t<B9:=wk<|QKd hb44
 have p0:0<=i.t*Qm v m:=bP t0 c0.1;have p1:i.t*Qm v m<=1000000000*1000000000:=bQ O O c0.1 wu;refine X9 I I<|QK (QD I)<|X9 I I<|QK (QD I)<|X9 I I<|QK (QD I)<|X9 I I<|QK (X6 I I O)<|X9 I I<|QK (JL (i:=m) rfl wM JB JO O)<|X9 I I<|QK (Yj (n:=m+2) (sz:=1) (cs:=v.map Jn) rfl JO (λF h=>(hG F h).1) O (J6 (show m<v.length by omega)))<|X9 I I<|QK (N0 I I O)<|X9 I I<|QK (QD I)<|X9 I I<|QK (N0 I I O)<|X9 I I<|QK (QD I)<|X9 I I<|QK (QD I)<|X9 I I<|QK (QD I)<|X9 I I ?_
 refine QK (Qv I I O)<|X9 I I<|QK (X6 I I O)<|X9 I I<|QK (JL (i:=j+m) rfl wM JB JO O)<|X9 I I<|QK (Vz (v:=.int .i64 (Qm ((U.drop j).take (m+3)) (m))) (c:=U.map Jn++rest) (T':=3) rfl JO .here (by rw[u0];exact WQ O))<|X9 I I<|QK (Qv I I O)<|X9 I I<|QK (QU I I I)<|QK (Qd I I I)<|Q5<|QC ?_
 refine QO I (λhc=>?_) λhc=>?_
 ·have hl:dv B9 ((U.drop j).take (m+3))<i.t*dv B9 v:=QHm hS t0 i.e (by have:=QKc hc;rw[h9];omega);refine QKr 6 I<|QA (X6 I I O)<|QKq 8 I<|QA (X6 I I O)<|QA (JL (i:=m+1) rfl wM JB JO O)<|QA (Yj (n:=m+2) (sz:=1) (cs:=v.map Jn) rfl JO (λF h=>(hG F h).1) O (J6 (show m+1<v.length by omega)))<|QA (Qv I I O)<|QKq 6 I ?_
  refine QKq 3 I ?_;refine QO I (λhc=>?_) λhc=>?_
  ·refine wA 7 I ?_
   repeat first|refine Q4 ?_|refine Qy ?_
   exact Y2 (i.t-1) rfl (wN I) rfl λw h=>h.imp QJZ λF h=>⟨h,QDC (r:=i.r+Qm v (m+1)) hS (gv hS.hu t0 hl) (by rw[ef,aX,<-i.e];omega) (wk<|QKc hc) (by rw[bO];exact hl)⟩
  refine QN<|Qk ?_
  exact Ql (⟨i.t-1,i.r+Qm v (m+1),(gv hS.hu t0 hl),O,wk<|QKd hc,O,(by rw[ef,aX,<-i.e];omega),(by rw[bO];exact hl)⟩:GuI ((U.drop j).take (m+3)) v m) (by show(i.t-1).toNat<i.t.toNat;have:=(gv hS.hu t0 hl);omega) wX QJZ w9
 refine Q2 ?_
 repeat first|refine QY ?_|refine QP wy ?_
 refine QZ<|QKs 8 I ?_
 exact Y2 (i.t) rfl (wN I) rfl λw h=>h.imp QJZ λF h=>⟨h,⟨t0,tb,QGr hS t0 tb i.e (by have:=QKd hc;rw[h9];omega),i.h⟩⟩
end Go.Proofs.YtpmehagnedbkhaaGreatDoor
namespace Ig
structure gR(b:Int)(U v:List Int)(j:Nat)(t:Int)(i:Nat)(U':List Int)(br:Int):Prop where
 len:U'.length=U.length
 dg:DG b U'
 lo:U'.take j=U.take j
 hi:U'.drop (j+i)=U.drop (j+i)
 br0:0<=br
 br1:br<=b
 h:dv b U'+b^j*(t*dv b (v.take i))=dv b U+b^(j+i)*br
def gR.start{b:Int}(hb:0<=b){U v:List Int}(hU:DG b U)(j:Nat)(t:Int):gR b U v j t 0 U 0 :=
 ⟨rfl,hU,rfl,rfl,bT _,hb,wz⟩
def QFA{l:List Int}{p k:Nat}:Qm (l.drop p) k=Qm l (p+k):=by
 by_cases g:p+k<l.length
 ·rw[YR w6,YR g];simp
 rw[Mk w6,Mk O]
def Gf{l m:List Int}{p q:Nat}(h:l.drop p=m.drop p)(hq:p<=q):Qm l q=Qm m q:=by
 have:=congrArg (λx=>Qm x (q-p)) h;simp only[QFA]at this;rw[show p+(q-p)=q by omega]at this;exact this
def QF2{b t x br:Int}(hb:1<b)(ht:0<=t/\t<b)(hx:0<=x/\x<b)(h:0<=br/\br<=b):0<=t*x/\t*x<=(b-1)*(b-1)/\0<=(t*x+br)/b/\(t*x+br)/b<b:=by
 have h0:=bP ht.1 hx.1;have h1:t*x<=(b-1)*(b-1):=bQ O O hx.1 O;refine⟨h0,h1,bB O O,bZ O ?_⟩;have e:(b-1)*(b-1)=b*b-2*b+1:=by grind
 omega
def gR.step{b:Int}{U v U':List Int}{j i:Nat}{t br x br':Int}(h:gR b U v j t i U' br)(hj:j+i<U.length)
  (hx:0<=x/\x<b) (hbr:br'<=b/\0<=br') (e:x-b*br'=Qm U (j+i)-(t*Qm v i+br)):gR b U v j t (i+1) (U'.set (j+i) x) br':=by
 obtain⟨h1,h2,h3,h4,h5,h6,h7⟩:=h;have hd:Qm U' (j+i)=Qm U (j+i):=Gf h4 (av _);refine⟨by simpa using h1,h2.set _ hx.1 hx.2,?_,?_,hbr.2,hbr.1,?_⟩
 ·rw[aI O];exact h3
 ·rw[aY O,<-bU,<-aH,h4,aH]
 rw[Ry b O,hd,Hs,<-bU,aQ];have e':b^(j+i)*(x-b*br')=b^(j+i)*(Qm U (j+i)-(t*Qm v i+br)):=by rw[e]
 rw[eG]at *
 generalize b^i=p at *
 generalize b^j=q at *
 grind
structure cE(b:Int)(U v:List Int)(j n:Nat)(t:Int)(U':List Int)(top:Int):Prop where
 len:U'.length=U.length
 dg:DG b (U'.set (j+n) 0)
 lo:U'.take j=U.take j
 hi:U'.drop (j+n+1)=U.drop (j+n+1)
 tp:Qm U' (j+n)=top
 h:dv b U'=dv b U-b^j*(t*dv b v)
def gR.stop{b:Int}(hb:1<b){U v U':List Int}{j n:Nat}{t br:Int}(h:gR b U v j t n U' br)(hn:v.length=n)(hj:j+n<U.length):cE b U v j n t (U'.set (j+n) (Qm U (j+n)-br)) (Qm U (j+n)-br):=by
 obtain⟨h1,h2,h3,h4,h5,h6,h7⟩:=h;have hd:Qm U' (j+n)=Qm U (j+n):=Gf h4 (av _);refine⟨by simpa using h1,?_,?_,?_,?_,?_⟩
 ·rw[fu];exact h2.set _ (bT _) O
 ·rw[aI O];exact h3
 ·rw[aY O,<-aH,h4,aH]
 ·rw[Ep O,if_pos rfl]
 rw[Ry b O,hd];rw[ar O]at h7;generalize b^(j+n)=p at *
 generalize b^j=q at *
 grind
def Wy(b:Int)(l:List Int)(j:Nat):dv b l=dv b (l.take j)+b^j*dv b (l.drop j):=by
 by_cases h:j<=l.length
 ·exact Vu b l j h
 rw[ar O,bF O];simp
def cE.part{b:Int}(hb:0<b){U v U':List Int}{j n:Nat}{t top:Int}(h:cE b U v j n t U' top):dv b (U'.drop j)=dv b (U.drop j)-t*dv b v:=by
 have e:=h.h;rw[Wy b U' j,Wy b U j,h.lo]at e;have hp:=pow_pos hb j;have e2:b^j*dv b (U'.drop j)=b^j*(dv b (U.drop j)-t*dv b v):=by
  rw[bK];generalize b^j*dv b (U'.drop j)=x at *;generalize b^j*dv b (U.drop j)=y at *;omega
 exact eT O e2
def jt{l:List Int}{j n:Nat}(h:j+n<l.length):l.drop j=(l.drop j).take n++Qm l (j+n)::l.drop (j+n+1):=by
 have e:(l.drop j).drop n=Qm l (j+n)::l.drop (j+n+1):=by
  rw[aH,Xo h]
 rw[<-e,bX]
def QDp{b:Int}(hb:1<b){U:List Int}{k n:Nat}(hU:DG b U)(h:dv b (U.drop k)<b^n):dv b (U.drop (k+n))=0:=by
 have e:=Wy b (U.drop k) n;rw[aH]at e;have h1:=JJ (b:=b) O ((hU.drop k).take n);have h2:=JJ (b:=b) O (hU.drop (k+n));have hp:=pow_pos (b:=b) O n;rcases bM 0 (dv b (U.drop (k+n)))with g | g
 ·have:b^n*1<=b^n*dv b (U.drop (k+n)):=aj O O;rw[eH]at this;omega
 omega
def cE.sign{b:Int}(hb:1<b){U v U':List Int}{j n:Nat}{t top:Int}(h:cE b U v j n t U' top)(hz:dv b (U.drop (j+n+1))=0)(hj:j+n<U.length):
  ∃lo,0<=lo/\lo<b^n/\dv b (U'.drop j)=lo+b^n*top:=by
 have hlen:=h.len;have hw:=jt (l:=U') (j:=j) (n:=n) O;refine⟨dv b ((U'.drop j).take n),?_,?_,?_⟩
 ·have:DG b ((U'.drop j).take n):=by
   have:=((h.dg.drop j).take n);rw[ep,if_neg O,bC,aI (av _)]at this;exact this
  exact JJ O this
 ·have:DG b ((U'.drop j).take n):=by
   have:=((h.dg.drop j).take n);rw[ep,if_neg O,bC,aI (av _)]at this;exact this
  have h2:=Kn (by omega:0<b) this;rw[show((U'.drop j).take n).length=n by simp;omega]at h2;exact h2
 have e:=congrArg (dv b) hw;rw[YE,Vc,h.hi,hz,h.tp,show((U'.drop j).take n).length=n by simp;omega]at e;simpa using e
def cE.QHn{b:Int}(hb:1<b){U v U':List Int}{j n:Nat}{t top:Int}(h:cE b U v j n t U' top)(hj:j+n<U.length)(h0:0<=top)(ht:top<b)
  (g:dv b (U.drop j)<(t+1)*dv b v):DG b U'/\dv b (U'.drop j)<dv b v/\dv b U'=dv b U-b^j*(t*dv b v):=by
 have hp:=h.part O;refine⟨?_,?_,h.h⟩
 ·have e:U'=(U'.set (j+n) 0).set (j+n) top:=by
   rw[fu];have:=h.tp;rw[YR (by rw[h.len];exact hj)]at this;rw[<-this,List.set_getElem_self]
  rw[e];exact h.dg.set _ h0 ht
 rw[hp];rw[ei,aX]at g;omega
def I4.start{b:Int}{U v:List Int}{j n:Nat}(hU:DG b (U.set (j+n) 0)):I4 b U v j n 0 U 0 :=
 ⟨rfl,hU,rfl,rfl,bT _,O,wz⟩
def I4.step{b:Int}{U v U':List Int}{j n i:Nat}{c x c':Int}(h:I4 b U v j n i U' c)(hi:i<n)(hj:j+n<U.length)
  (hx:0<=x/\x<b) (hc:0<=c'/\c'<=1) (e:x+b*c'=Qm U (j+i)+Qm v i+c):I4 b U v j n (i+1) (U'.set (j+i) x) c':=by
 obtain⟨h1,h2,h3,h4,h5,h6,h7⟩:=h;have hd:Qm U' (j+i)=Qm U (j+i):=Gf h4 (av _);refine⟨by simpa using h1,?_,?_,?_,hc.1,hc.2,?_⟩
 ·rw[List.set_comm _ _ O];exact h2.set _ hx.1 hx.2
 ·rw[aI O];exact h3
 ·rw[aY O,<-bU,<-aH,h4,aH]
 rw[Ry b O,hd,Hs,<-bU,aQ];have e':b^(j+i)*(x+b*c')=b^(j+i)*(Qm U (j+i)+Qm v i+c):=by rw[e]
 rw[eG]at *
 generalize b^i=p at *
 generalize b^j=q at *
 grind
def I4.Qm{b:Int}(hb:1<b){U v U':List Int}{j n i:Nat}{c:Int}(h:I4 b U v j n i U' c)(hi:i<n):0<=Qm U' (j+i)/\Qm U' (j+i)<b:=by
 have:=h.dg.Qm O (j+i);by_cases g:j+n<U'.length
 ·rw[Ep g,if_neg O]at this;exact this
 rw[List.set_eq_of_length_le O]at this;exact this
def I4.QHn{b:Int}(hb:1<b){U v U1 U':List Int}{j n:Nat}{t top c:Int}(h:I4 b U1 v j n n U' c)(hs:cE b U v j n t U1 top)(hU:DG b U)(hv:DG b v)(hn:v.length=n)(hz:dv b (U.drop (j+n+1))=0)(hj:j+n<U.length)(h0:top<0)
  (g:(t-1)*dv b v<=dv b (U.drop j)):DG b (U'.set (j+n) (top+c))/\dv b ((U'.set (j+n) (top+c)).drop j)<dv b v/\dv b (U'.set (j+n) (top+c))=dv b U-b^j*((t-1)*dv b v)/\0<=t-1/\(U'.set (j+n) (top+c)).length=U.length:=by
 obtain⟨lo,l0,l1,l2⟩:=hs.sign hb hz hj;have hp:=hs.part O;have hlen:=hs.len;obtain⟨a1,a2,a3,a4,a5,a6,a7⟩:=h;have hd:Ig.Qm U' (j+n)=top:=by rw[Gf a4 (av _),hs.tp]
 rw[ar O]at a7;have hv0:=JJ (b:=b) O hv;have hv1:=Kn (b:=b) O hv;rw[hn]at hv1;have hB:=pow_pos (b:=b) O n;have hw:dv b (U'.set (j+n) (top+c))=dv b U-b^j*((t-1)*dv b v):=by
  rw[Ry b O,hd];have e:=hs.h;generalize b^(j+n)=p at *
  generalize b^j=q at *
  grind
 have hlo:(U'.set (j+n) (top+c)).take j=U.take j:=by
  rw[aI O,a3,hs.lo]
 have hpart:dv b ((U'.set (j+n) (top+c)).drop j)=dv b (U.drop j)-(t-1)*dv b v:=by
  have e:=hw;rw[Wy b _ j,Wy b U j,hlo]at e;have hq:=pow_pos (b:=b) O j;have e2:b^j*dv b ((U'.set (j+n) (top+c)).drop j)=b^j*(dv b (U.drop j)-(t-1)*dv b v):=by
   rw[bK];generalize b^j*dv b ((U'.set (j+n) (top+c)).drop j)=x at *;generalize b^j*dv b (U.drop j)=y at *;omega
  exact eT O e2
 have hneg:dv b (U1.drop j)<0:=by
  rw[l2];have:b^n*top<=b^n*(-1):=aj O O;omega
 have hlt:dv b ((U'.set (j+n) (top+c)).drop j)<dv b v:=by
  rw[hpart,ef,aX];omega
 have hge:0<=dv b ((U'.set (j+n) (top+c)).drop j):=by rw[hpart];omega
 have hsd:dv b ((U'.set (j+n) (top+c)).drop j)=dv b ((U'.drop j).take n)+b^n*(top+c):=by
  have hw2:=congrArg (dv b) (jt (l:=U'.set (j+n) (top+c)) (j:=j) (n:=n) w6);have e3:(U'.set (j+n) (top+c)).drop (j+n+1)=U'.drop (j+n+1):=aY O;rw[YE,Vc,Ep (show j+n<U'.length by omega),if_pos rfl,e3]at hw2;have:dv b (U'.drop (j+n+1))=0:=by
   rw[<-aH,a4,aH,hs.hi];exact hz
  have e2:((U'.set (j+n) (top+c)).drop j).take n=(U'.drop j).take n:=by
   rw[ep,if_neg O,bC,aI (av _)]
  rw[this,e2,show((U'.drop j).take n).length=n by simp;omega]at hw2;simpa using hw2
 have hdg:DG b ((U'.drop j).take n):=by
  have:=((a2.drop j).take n);rw[ep,if_neg O,bC,aI (av _)]at this;exact this
 have d0:=JJ (b:=b) O hdg;have d1:=Kn (b:=b) O hdg;rw[show((U'.drop j).take n).length=n by simp;omega]at d1;have ht0:top+c=0:=by
  rw[hsd]at hlt hge;have q1:¬1<=top+c:=λq=>by
   have:b^n*1<=b^n*(top+c):=aj q O;omega
  have q2:¬top+c<=-1:=λq=>by
   have:b^n*(top+c)<=b^n*(-1):=aj q O;omega
  omega
 refine⟨?_,hlt,hw,?_,w6⟩
 ·rw[ht0];exact a2
 rcases bM (t-1) 0 with q | q
 ·exfalso;have u0:=JJ (b:=b) O (hU.drop j);have:t*dv b v<=0:=Int.mul_nonpos_of_nonpos_of_nonneg O hv0;omega
 exact q
end Ig
namespace Go.Proofs.YtpmehagnedbkhaaGreatDoor
variable{c f t z zx:Int}{h m x:Rat}{y:Operand}{T yT:TypeId}{i k n:Nat}{cs:List Value}{a b l o u:List Int}{s:List UInt8}{w:World}{F:Gs}{ra rb:Sr}
open Go.RowKit Ig
def pP(db:DG B9 b)(zb:NZ b)(hn:b.length=n+1):1<=Qm b n/\1<=B9/(Qm b n+1)/\B9/(Qm b n+1)<B9/\B9/(Qm b n+1)*(Qm b n+1)<=B9:=by
 have hd:=db.Qm XU n;have h1:1<=Qm b n:=by
  have hlt:n<b.length:=O;have:Qm b n≠0:=by
   intro e;refine zb ?_;rw[List.getLast?_eq_getElem?,hn,ew,eQ hlt];rw[YR hlt]at e;rw[e]
  omega
 have h9:B9=1000000000:=rfl;refine⟨h1,?_,?_,Int.ediv_mul_le _ O⟩
 ·exact(Int.le_ediv_iff_mul_le O).2 O
 exact bZ O (by rw[bL];have:B9*1<=B9*Qm b n:=aj h1 O;omega)
def QEo{v:List Int}(db:DG B9 b)(zb:NZ b)(hn:b.length=n+1)(dv':DG B9 v)(zv:NZ v)(h:dv B9 v=dv B9 b*f)(h1:1<=f)(h2:f*(Qm b n+1)<=B9):v.length=n+1:=by
 have hlt:n<b.length:=O;have e1:dv B9 b=dv B9 (b.take n)+B9^n*Qm b n:=by
  have:=Hs B9 b n;rw[ar O]at this;exact this
 have e2:=Kn XU (db.take n);rw[show(b.take n).length=n by simp;omega]at e2;have hb0:B9^n<=dv B9 b:=by
  have:=R3 XU db zb (by intro e;rw[e]at hn;simp at hn);rw[hn,ew]at this;exact this
 have hp:=pow_pos XU n;have hup:dv B9 b<B9^n*(Qm b n+1):=by rw[bL,eH];omega
 have hv1:dv B9 v<B9^(n+1):=by
  rw[h,aQ];have:dv B9 b*f<B9^n*(Qm b n+1)*f:=eO hup O;have q:B9^n*(Qm b n+1)*f<=B9^n*B9:=by
   rw[bV,aJ (Qm b n+1)];exact aj h2 O
  omega
 have hv0:B9^n<=dv B9 v:=by
  rw[h];have:dv B9 b*1<=dv B9 b*f:=aj h1 O;omega
 rcases Nat.lt_trichotomy v.length (n+1)with g | g | g
 ·have h3:=Kn XU dv';have h4:=Ig.X0 (b:=B9) wu (show v.length<=n by omega);omega
 ·exact g
 have h3:=R3 XU dv' zv (by intro e;rw[e]at g;simp at g);have h4:=Ig.X0 (b:=B9) wu (show n+1<=v.length-1 by omega);omega
def QHe{b:Int}(hb:0<b){U:List Int}{k:Nat}(hU:DG b U):b^k*dv b (U.drop k)<=dv b U:=by
 rw[Wy b U k];have:=JJ hb (hU.take k);omega
structure qA(a v:List Int)(f:Int)(n:Nat) where
 k:Nat
 U:List Int
 Q:List Int
 le:k+n<=a.length+1
 lu:U.length=a.length+1
 lq:Q.length=a.length+1-n
 du:DG B9 U
 dq:DG B9 Q
 lt:dv B9 (U.drop k)<dv B9 v
 h:dv B9 a*f=dv B9 v*(B9^k*dv B9 (Q.drop k))+dv B9 U
def qA.start{a b v U:List Int}{f:Int}{n:Nat}(da:DG B9 a)(db:DG B9 b)(zb:NZ b)(hn:b.length=n+1)(hv:dv B9 v=dv B9 b*f)(h1:1<=f)(du:DG B9 U)(lu:U.length=a.length+1)(hU:dv B9 U=dv B9 a*f)(hl:n+1<=a.length+1):qA a v f (n+1) where
 k:=a.length+1-(n+1)
 U:=U
 Q:=aR (a.length+1-(n+1)) 0
 le:=O
 lu:=lu
 lq:=wz
 du:=du
 dq:=DG.replicate XU _
 lt:=by
  have hb0:B9^n<=dv B9 b:=by
   have:=R3 XU db zb (by intro e;rw[e]at hn;simp at hn);rw[hn,ew]at this;exact this
  have h2:=QHe XU (k:=a.length-n) du;have h3:=Kn XU da;have h4:dv B9 a*f<B9^a.length*f:=eO h3 O;have h5:B9^a.length*f=B9^(a.length-n)*(B9^n*f):=by rw[<-bV,<-eG];congr 2;omega
  rw[hU]at h2;have h6:B9^(a.length-n)*dv B9 (U.drop (a.length-n))<B9^(a.length-n)*(B9^n*f):=O;have h7:dv B9 (U.drop (a.length-n))<B9^n*f:=eR h6 (wk<|pow_pos XU (a.length-n));have h8:B9^n*f<=dv B9 b*f:=aA hb0 O;rw[show a.length+1-(n+1)=a.length-n by omega,hv];omega
 h:=by
  rw[bF wz,kg,eB,eB,fH,hU]
def qA.zero{v:List Int}(i:qA a v f n)(dv':DG B9 v)(hv:v.length=n):dv B9 (i.U.drop (i.k+n))=0:=by
 have:=Kn XU dv';rw[hv]at this;exact QDp Td i.du (fI i.lt this)
def qA.cj{v:List Int}{m:Nat}(i:qA a v f (m+2))(dv':DG B9 v)(zv:0<Qm v (m+1))(hv:v.length=m+2)(hk:0<i.k):H4 B9 ((i.U.drop (i.k-1)).take (m+3)) v m/\dv B9 (i.U.drop (i.k-1))=dv B9 ((i.U.drop (i.k-1)).take (m+3)):=by
 have hz:=i.zero dv' hv;have hle:=i.le;have hlu:=i.lu;have e:dv B9 (i.U.drop (i.k-1))=dv B9 ((i.U.drop (i.k-1)).take (m+3)):=by
  have:=Wy B9 (i.U.drop (i.k-1)) (m+3);rw[aH,show i.k-1+(m+3)=i.k+(m+2) by omega,hz]at this;simpa using this
 refine⟨⟨(i.du.drop _).take _,dv',w6,hv,zv,?_⟩,e⟩;rw[<-e,Xo O,Vc,show i.k-1+1=i.k by omega];have hd:=i.du.Qm XU (i.k-1);have hlt:=i.lt;have:B9*dv B9 (i.U.drop i.k)<=B9*(dv B9 v-1):=aj O wu;rw[bK,eH]at this;omega
def qA.next{a v:List Int}{f:Int}{n:Nat}(i:qA a v f n)(hk:0<i.k)(hn:0<n){U1:List Int}{t:Int}(t0:0<=t)(t1:t<B9)(h1:DG B9 U1)(h2:dv B9 (U1.drop (i.k-1))<dv B9 v)(h3:dv B9 U1=dv B9 i.U-B9^(i.k-1)*(t*dv B9 v))(h4:U1.length=i.U.length):qA a v f n where
 k:=i.k-1
 U:=U1
 Q:=i.Q.set (i.k-1) t
 le:=wk i.le
 lu:=by rw[h4,i.lu]
 lq:=by rw[ax,i.lq]
 du:=h1
 dq:=i.dq.set _ t0 t1
 lt:=h2
 h:=by
  have hle:=i.le;have hlq:=i.lq;rw[h3,Xo (l:=i.Q.set (i.k-1) t) (by rw[ax];omega),Vc,Ep O,if_pos rfl,aY O,show i.k-1+1=i.k by omega,i.h];have e:B9^i.k=B9^(i.k-1)*B9:=by rw[<-aQ];congr 1;omega
  rw[e];generalize B9^(i.k-1)=p;generalize dv B9 (i.Q.drop i.k)=q;generalize dv B9 i.U=u;generalize dv B9 v=y;generalize B9=B
  grind
theorem qA.stop{v:List Int}(i:qA a v f n)(hk:i.k=0)(db:DG B9 b)(da:DG B9 a)(hv:dv B9 v=dv B9 b*f)(h1:1<=f)(hb:0<dv B9 b)(dv':DG B9 v)(lv:v.length=n):
  dv B9 i.Q=dv B9 a/dv B9 b/\dv B9 (i.U.take n)=f*(dv B9 a%dv B9 b):=by
 have h:=i.h;have lt:=i.lt;rw[hk,bD]at lt;have hz:=i.zero dv' lv;rw[hk,aU]at hz;have e0:dv B9 (i.U.take n)=dv B9 i.U:=by
  rw[Wy B9 i.U n,hz];simp
 rw[hk,bD,Int.pow_zero,aX,hv]at h;rw[hv]at lt;have u0:=JJ XU i.du;rw[e0];have e1:dv B9 i.U=f*(dv B9 a-dv B9 b*dv B9 i.Q):=by rw[bK];grind
 have lt2:f*(dv B9 a-dv B9 b*dv B9 i.Q)<f*dv B9 b:=by rw[<-e1,aJ f (dv B9 b)];exact lt
 have r1:dv B9 a-dv B9 b*dv B9 i.Q<dv B9 b:=eR lt2 O;have r0:0<=dv B9 a-dv B9 b*dv B9 i.Q:=by
  rcases bM (dv B9 a-dv B9 b*dv B9 i.Q) 0 with g | g
  ·have:f*(dv B9 a-dv B9 b*dv B9 i.Q)<=f*(-1):=aj O O;omega
  exact g
 have q:dv B9 a/dv B9 b=dv B9 i.Q:=YF hb (by rw[aJ];omega) (by rw[ei,aX,aJ];omega);refine⟨q.symm,?_⟩;rw[e1];have:=fJ (dv B9 a) (dv B9 b);rw[this,q]
section
variable[Dr][df:Df]{P:Program}{Q:Exit->Act->World->Prop}{N:Nat}{m:Sl}{ops:Array Oper}{l:List Oper}{w0:World}{F0:Gs}{bs:List (Nat×Obj)}{G:Gs->Prop}{ty:TypeId}{pos:String}{aft:Array Edge}
theorem Q7.big{sz:Nat}{v:Value}{ob:List (Nat×Obj)}(hr:Q7 T sz v n cs ob)(hn:0<n):∃b cap rest,v = .slice (Option.some ⟨b,0,Option.none⟩) n cap/\ob=[(b,.cells (cs++rest).toArray T (0,0))]/\n<=cap:=by
 cases hr with
 |nil=>exact absurd hn (fq 0)
 |some h1 h2 h3 h4=>exact⟨_,_,_,rfl,rfl,h3⟩
theorem Src.QJl{sz b off c:Nat}{news:List Value}(hr:∀F,G F->Qw F (some ⟨b,off,none⟩) k sz news)(hk:0<k)(hl:news.length=k*sz):Src ⟨w0,F0,bs,G⟩ sz (.slice (.some ⟨b,off,none⟩) k c) k news :=
 ⟨hl,.inr ⟨_,_,rfl,λw hw j v hv=>by rw[Hu];exact W2 hw hr hk hv⟩⟩
end
theorem XD.own{b c:Nat}{rest:List Value}(h:F b=some ((l.map Jn++rest).toArray,T))(hl:l.length=n)(hn:n<=c):XD F ⟨some ⟨b,0,none⟩,n,c⟩ l:=by
 refine⟨⟨by simp[hl],λ_=>⟨b,0,_,T,rfl,h,λj u hu=>?_⟩⟩,hl,hn⟩;have hj:j<(l.map Jn).length:=by rcases aW j (l.map Jn).length with g | g;exact g;rw[eX g]at hu;cases hu
 rw[aU,aE,List.getElem?_append,if_pos hj];exact hu
def XD.QJo{b c:Nat}(h:F b=some ((l.map Jn).toArray,T))(hl:l.length=n)(hn:n<=c):XD F ⟨some ⟨b,0,none⟩,n,c⟩ l:=XD.own (rest:=[]) (by rw[fg];exact h) hl hn
def XD.one{b:Nat}{x:Int}(h:F b=some (([ag .i64 x]:List Value).toArray,T)):XD F ⟨some ⟨b,0,none⟩,1,1⟩ [x]:=⟨Qw.of h rfl,rfl,av _⟩
def XD.take{q:Option Addr}{c:Nat}(h:XD F ⟨q,n,c⟩ l)(hk:k<=n):XD F ⟨q,k,c⟩ (l.take k):=by
 have hn:=h.2.1;have hc:=h.2.2;dsimp only at hn hc;exact⟨h.1.take hn hk,w6,by show k<=c;omega⟩
def Rc{m:List Int}(hl:DG B9 l)(hm:DG B9 m)(zl:NZ l)(h:dv B9 l<=dv B9 m):l.length<=m.length:=by
 rcases aW m.length l.length with g | g
 ·have:=ZT Td hm hl zl g;omega
 exact g
def QCR(x:Int):dv B9 [x]=x:=by simp[dv]
def QEY{x r:Int}(hf:0<f)(h:f*x=f*r+t)(h0:0<=t)(h1:t<f):r=x:=by
 have e:t=f*(x-r):=by rw[bK];omega
 rcases Int.lt_trichotomy (x-r) 0 with g | g | g
 ·have:f*(x-r)<=f*(-1):=aj O O;omega
 ·omega
 have:f*1<=f*(x-r):=aj O O;omega
def QG2(a b:List Int)(c:(Sr×List Int)×(Sr×List Int))(F:Gs):Prop :=
 (XD F c.1.1 c.1.2/\DG B9 c.1.2/\NZ c.1.2/\dv B9 c.1.2=dv B9 a/dv B9 b)/\(XD F c.2.1 c.2.2/\DG B9 c.2.2/\NZ c.2.2/\dv B9 c.2.2=dv B9 a%dv B9 b)
theorem QGC(nb:b.length=1)(db:DG B9 b)(c:(Sr×List Int)×Int){k:Nat}
  (h:XD F c.1.1 c.1.2/\DG B9 c.1.2/\NZ c.1.2/\0<=c.2/\c.2<Qm b 0/\dv B9 a=Qm b 0*dv B9 c.1.2+c.2/\c.1.2.length<=a.length) (h':XD F ⟨some ⟨k,0,none⟩,(Je [c.2]).length,1⟩ (Je [c.2])) :
  QG2 a b ((c.1.1,c.1.2),(⟨some ⟨k,0,none⟩,(Je [c.2]).length,1⟩,Je [c.2])) F:=by
 obtain⟨h1,h2,h3,h4,h5,h6,_⟩:=h;have e:dv B9 b=Qm b 0:=by
  obtain⟨x,rfl⟩:=List.length_eq_one_iff.1 nb;simp[dv,Qm]
 have b0:=db.Qm XU 0;refine⟨⟨h1,h2,h3,?_⟩,h',(DG.cons h4 O (DG.nil _)).Je,Zv _,?_⟩
 ·show dv B9 c.1.2=_;rw[e];exact(YF O (by rw[aJ];omega) (by rw[ei,aX,aJ];omega)).symm
 show dv B9 (Je [c.2])=_;rw[ZH,QCR,e,YU (q:=dv B9 c.1.2) (by rw[aJ];omega) (by rw[ei,aX,aJ];omega),aJ];omega
structure QKM(a:List Int)(f:Int) where
 U:List Int
 v:Value
 ob:List (Nat×Obj)
 le:U.length<=a.length+1
 du:DG B9 U
 h:dv B9 U=dv B9 a*f
 hr:Q7 3 1 v U.length (U.map Jn) ob
structure QKH(U v:List Int)(j:Nat)(t:Int) where
 i:Nat
 U':List Int
 br:Int
 le:i<=v.length
 h:gR B9 U v j t i U' br
structure QKX(U v:List Int)(j n:Nat) where
 i:Nat
 U':List Int
 c:Int
 le:i<=n
 h:Ig.I4 B9 U v j n i U' c
@[reducible] def QJX (c:(Sr×List Int)×(Sr×List Int)):Value:=.tuple #[.slice c.1.1.q c.1.1.n c.1.1.cap,.slice c.2.1.q c.2.1.n c.2.1.cap]
set_option maxHeartbeats 4000000 in
theorem UR(hF:Fits F w)(hA:XD F ra a)(hB:XD F rb b)(da:DG B9 a)(db:DG B9 b)(za:NZ a)(zb:NZ b)(hb:0<dv B9 b)(la:a.length<=10000000)(lb:b.length<=10000000):
  QT prog 163 [ra.v,rb.v] w F QJX (λc F=>QG2 a b c F):=by
 obtain⟨q,n,c⟩:=ra;obtain⟨q',n',c'⟩:=rb;have na:=hA.2.1;have nb:=hB.2.1;dsimp only at na nb;have h9:B9=1000000000:=rfl;have nb0:0<n':=by
  rcases aC n' with g | g
  ·rw[g]at nb;rw[aq nb]at hb;simp at hb
  exact g
 dsimp only[Sr.v];refine QT.intro (G:=λF=>XD F ⟨q,n,c⟩ a/\XD F ⟨q',n',c'⟩ b) func163 rfl wy rfl rfl hF (λF' hF'=>⟨hA.le hF',hB.le hF'⟩)<|QKO<|QJE rfl<|wQ rfl<|QG<|wR rfl<|QJD rfl<|QI rfl (λ_ _ f k=>TF f (ra:=⟨q,n,c⟩) (rb:=⟨q',n',c'⟩) k.1 (k.2) (da) (db) (za) (zb) O O) λ_=>QA (QU rfl rfl rfl)<|QE<|QC ?_
 refine QO I (λhc=>?_) λhc=>?_
 ·have hlt:dv B9 a<dv B9 b:=by have:=QKc hc;unfold YG at this;split at this;assumption;split at this<;>omega
  refine wA 8 I ?_;exact JY (((⟨none,0,0⟩,[]),(⟨q,n,c⟩,a)):(Sr×List Int)×(Sr×List Int)) I (wO I I) (rfl) λF h9=>⟨⟨⟨Qw.nil F _ _,rfl,av _⟩,DG.nil _,by simp[NZ],by rw[kg];exact(Int.ediv_eq_zero_of_lt (JJ XU da) hlt).symm⟩,h9.1.1,da,za,(Int.emod_eq_of_lt (JJ XU da) hlt).symm⟩
 have hge:dv B9 b<=dv B9 a:=by have:=QKd hc;unfold YG at this;split at this;exact absurd this wu;omega
 refine QKr 6 I<|QA (Qg I JB)<|QKq 3 I ?_
 refine QO I (λhc=>?_) λhc=>?_
 ·have hn1:n'=1:=wk<|QKc hc
  subst hn1;obtain⟨f1,_⟩:=pP (n:=0) db zb nb;have bx:=db.Qm XU 0;have d0:=bx.2;refine wA 4 I<|QA (Q6 (n:=1) (0) (λF h9=>(h9.1.2).1) rfl wM JB JO O)<|QA (JA (n:=1) ((0)*1) (λF h9=>(h9.1.2).1) O rfl JO (J6 (o:=b) O))<|QI I (λ_ _ f k=>jv f (ra:=⟨q,n,c⟩) k.1.1 (da) O O (d0)) λc37=>QKq 8 I<|XQ _ (λ_ _ f k=>k.2.2) λp37=>wA 3 I<|Qb I (Qz JB) JO Pp I I λb42=>QI I (λ_ _ f k=>UN f (r:=⟨some ⟨b42,0,none⟩,1,1⟩) (XD.one k.2) wz) λc43=>QKq 4 I ?_
  refine QW ?_;exact JY (((c37.1.1,c37.1.2),(⟨some ⟨b42,0,none⟩,(Je [c37.2]).length,1⟩,Je [c37.2])):(Sr×List Int)×(Sr×List Int)) I (wO I I) (rfl) λF h9=>QGC nb db c37 h9.1.1.2 h9.2
 have hn2:n'≠1:=λe=>QKd hc O;obtain⟨m,rfl⟩:∃m,n'=m+2:=⟨n'-2,O⟩;obtain⟨f1,f2,f3,f4⟩:=pP (n:=m+1) db zb nb;have bx:=db.Qm XU (m+1);rw[h9]at bx f2 f3 f4;have d1f:DG B9 [1000000000/(Qm b (m+1)+1)]:=DG.cons O f3 (DG.nil _);refine QKr 6 I<|QA (Qg I JB)<|QA (X6 I I O)<|QA (Q6 (n:=(m+2)) (m+1) (λF h9=>(h9.1.2).1) rfl wM JB JO O)<|QA (JA (n:=(m+2)) ((m+1)*1) (λF h9=>(h9.1.2).1) O rfl JO (J6 (o:=b) O))<|QA (Qv I I O)<|QA (Sd I I O O O)<|Qb I (Qz JB) JO Pp I I λb52=>QKq 7 I ?_
 refine QI I (λ_ _ f k=>UP f (ra:=⟨q',m+2,c'⟩) (rb:=⟨some ⟨b52,0,none⟩,1,1⟩) k.1.1.2 (XD.one k.2) (db) (d1f) O (by first | omega | (simp;done) | (simp;omega))) (λc55=>?_);rcases c55 with ⟨v55,l55⟩;dsimp only;refine JN _ (λw F hF ⟨⟨⟨⟨hA,hB⟩,_⟩,hs52⟩,⟨h55,h55p⟩⟩=>aP h55.2 h55p) (λp55=>wQ rfl<|QG ?_);obtain⟨⟨n55,c55⟩,d55,e55,z55,m55⟩:=p55;rw[QCR]at e55;have l55l:l55.length=m+2:=QEo db zb nb d55 z55 e55 f2 f4;obtain⟨qv,nv,cv⟩:=v55;dsimp only at n55 c55 ⊢;obtain rfl:nv=m+2:=O;have zv:0<Qm l55 (m+1):=wk ((pP (n:=m+1) d55 z55 l55l).1);have hlab:b.length<=a.length:=Rc db da zb hge;refine wA 2 I<|QA (Qg I JB)<|QKq 5 I<|Bi (Qz JB) JO λb58=>wB 2 I ?_
 refine QI I (λ_ _ f k=>UP f (ra:=⟨q,n,c⟩) (rb:=⟨some ⟨b52,0,none⟩,1,1⟩) k.1.1.1.1 (XD.one k.1.2) (da) (d1f) O (by first | omega | (simp;done) | (simp;omega))) (λc61=>?_);rcases c61 with ⟨v61,l61⟩;dsimp only;refine JN _ (λw F hF ⟨⟨⟨⟨⟨hA,hB⟩,_⟩,hs52⟩,⟨h55,h55p⟩⟩,⟨h61,h61p⟩⟩=>aP h61.2 h61p) (λp61=>?_);obtain⟨⟨n61,c61⟩,d61,e61,z61,m61⟩:=p61;rw[QCR]at e61;have hpos:0<l61.length:=by
  rcases aC l61.length with g | g
  ·rw[aq g,kg]at e61;have:0<dv B9 a*(1000000000/(Qm b (m+1)+1)):=Int.mul_pos O O;omega
  exact g
 obtain⟨qa,na',ca⟩:=v61;dsimp only at n61 c61 ⊢;refine JN _ (λ_ _ f h=>h.2.1.1.ptr (by dsimp only;omega)) (λhq=>?_);obtain⟨qab,qao,hq⟩:=hq;dsimp only at hq;subst hq;simp only[aL]at m61;refine Ys (bs1:=[]) (ob:=[(b58,.cells #[] 3 (0,0))]) (n:=0) (k:=na') (sz:=1) (olds:=[]) (news:=l61.map Jn) rfl rfl JB JO Pp rfl Og (Q7.some (l:=[]) (rest:=[]) rfl rfl (av _) (aK _)) (Src.QJl (λF h=>h.2.1.1) O w6) O O (λv hv=>by obtain⟨x,_,rfl⟩:=List.mem_map.1 hv;rfl) (λv62 ob62 hr62=>QKq 5 I<|JW (ι:=QKM a (1000000000/(Qm b (m+1)+1))) [(0,_),(8,_),(9,_),(10,_)] (λi=>[(11,i.v)]) (λi=>i.ob) (λi F=>True) (λi=>a.length+1-i.U.length) (⟨l61,v62,ob62,O,d61,e61,by rw[n61];simpa using hr62⟩) wV wS QJZ w8 λi=>?_);simp only[ah,ai];have hle:=i.le;refine wA 4 I<|QA (CM I i.hr JB)<|QJD I<|QA (Qg I JB)<|QA (Qv I I O)<|QKq 3 I ?_
 refine QO I (λhc=>?_) λhc=>?_
 ·refine QKr 5 I<|Qb I (Qz JB) JO Pp I I λb70=>?_
  refine Ys (bs1:=[]) (ob:=i.ob) (k:=1) (sz:=1) (news:=[.int .i64 0]) I I JB JO Pp I Og i.hr (Src.row (off:=0) tB (λj v hv=>by rw[aU];show([.int .i64 0].toArray)[j]?=some v;rw[aE];exact hv) rfl) O O (Kh wS) (λv71 ob71 hr71=>?_);refine wB 2 I<|Qk ?_
  exact Ql (⟨i.U++[0],v71,ob71,by have:=QKc hc;simp;omega,i.du.append (DG.cons wu wu (DG.nil _)),by rw[ZA,i.h];simp,by simpa[Jn]using hr71⟩) (by have:=QKc hc;show a.length+1-(i.U++[0]).length<a.length+1-i.U.length;rw[aB,aL];omega) wW QJZ λF h=>⟨h.1.1,trivial⟩
 refine Q2 ?_
 repeat first|refine QY ?_|refine QP wy ?_
 refine QZ<|QC<|QG ?_
 have hle0:=i.le;have hU:i.U.length=a.length+1:=wk<|QKd hc
 obtain⟨U0,vU,obU,hle0,du0,hU0,hr0⟩:=i;dsimp only at hU hle0 hU0 ⊢;rw[hU]at hr0;obtain⟨bu,cu,rest,rfl,rfl,hcu⟩:=hr0.big O;refine wA 2 I<|QA (Qg I JB)<|QJD I<|QA (X6 I I O)<|M3 (n:=a.length+1-(m+2)) (bytes:=8) wM wM JB JO Pp I Og O O λbq=>?_
 rw[show XY [ag .i64 0] (a.length+1-(m+2))=(aR (a.length+1-(m+2)) (0:Int)).map Jn by rw[UA];simp[Jn]];refine Zi (List.Perm.swap _ _ _)<|QKq 7 I<|QA (Qg I JB)<|QJD I<|QA (X6 I I O)<|QA (X6 I I O)<|wQ I<|QV<|JW (ι:=qA a l55 (1000000000/(Qm b (m+1)+1)) (m+2)) [(8,_),(9,_),(10,_),(11,_),(12,_)] (λi2=>[(13,.int .i64 ((i2.k:Int)-1))]) (λi2=>[(bu,.cells (i2.U.map Jn++rest).toArray 3 (0,0)),(bq,.cells (i2.Q.map Jn).toArray 3 (0,0))]) (λi2 F=>True) (λi2=>i2.k) (qA.start da db zb nb e55 f2 du0 hU hU0 O) wW ⟨(congrArg (λz:Int=>some (ag .i64 z)) (by simp only[qA.start];omega)),trivial⟩ QJZ w8 λi2=>?_
 simp only[ah,ai];have hle2:=i2.le;have lu2:=i2.lu;have lq2:=i2.lq;refine wA 7 I ?_;refine QO I (λhc=>?_) λhc=>?_
 ·have hk0:0<i2.k:=wk<|QKc hc
  rw[show((i2.k:Int)-1)=((i2.k-1:Nat):Int) by omega];obtain⟨hst,hwe⟩:=i2.cj d55 zv l55l hk0;have hz0:=i2.zero d55 l55l;refine QKr 9 I<|XS (bs1:=_) rfl (bJ _) (QEW (rest:=rest) (U:=i2.U) (v:=l55) (j:=(i2.k-1)) (m:=m) (rv:=⟨qv,m+2,cv⟩) lu2 O O (λF h9=>h9.1.1.1.2.1) hst) λt89=>JN _ (λ_ _ f h=>h.2) λg89=>?_
  obtain⟨t0,t1,t2,t3⟩:=g89;rw[<-hwe]at t2 t3;refine QKq 15 I<|JW (ι:=QKH i2.U l55 (i2.k-1) t89) [(8,_),(9,_),(10,_),(11,_),(12,_),(13,_),(14,_)] (λi3=>[(15,.int .i64 (i3.br)),(16,.int .i64 ((i3.i:Nat):Int))]) (λi3=>[(bu,.cells (i3.U'.map Jn++rest).toArray 3 (0,0)),(bq,.cells (i2.Q.map Jn).toArray 3 (0,0))]) (λi3 F=>True) (λi3=>l55.length-i3.i) (⟨0,i2.U,0,aK _,gR.start wu i2.du _ _⟩) wY wT QJZ w8 λi3=>?_
  simp only[ah,ai];have hle3:=i3.le;have lU3:=i3.h.len;have br0:=i3.h.br0;have br1:=i3.h.br1;rw[h9]at br1;refine wA 8 I ?_;refine QO I (λhc=>?_) λhc=>?_
  ·have hi3:i3.i<m+2:=wk<|QKc hc
   have bd:=QF2 Td ⟨t0,t1⟩ (d55.Qm XU i3.i) ⟨i3.h.br0,i3.h.br1⟩;simp only[h9]at bd;have bu3:=i3.h.dg.Qm XU ((i2.k-1)+i3.i);rw[h9]at bu3;have hd3:Qm i3.U' ((i2.k-1)+i3.i)=Qm i2.U ((i2.k-1)+i3.i):=Gf i3.h.hi (av _);refine QKr 9 I<|QA (Q6 (n:=(m+2)) (i3.i) (λF h9=>(h9.1.1.1.1.1.2.1).1) rfl rfl JB JO O)<|QA (JA (n:=(m+2)) ((i3.i)*1) (λF h9=>(h9.1.1.1.1.1.2.1).1) O rfl JO (J6 (o:=l55) O))<|QA (N0 I I O)<|QJD I<|QA (Qv I I O)<|QKq 8 I<|QA (Qv I I O)<|QA (JL (i:=(i2.k-1)+i3.i) rfl wM JB JO O)<|QA (Vz (c:=(i3.U').map Jn++rest) (T':=3) rfl JO .here (WQ (by first | omega | (simp only[ax];omega)))) ?_
   refine QJD I<|QA (Hp I I O O)<|QA (X6 I I O)<|QKq 6 I<|QA (Sd I I O O O)<|QKq 10 I ?_
   refine QO I (λhc=>?_) λhc=>?_
   ·have hx:=QKc hc;refine wR I<|QA (Qv I I O)<|QKq 5 I<|QA (Qv I I O)<|QKq 7 I<|QA (Qv I I O)<|QJD I<|QA (JL (i:=(i2.k-1)+i3.i) rfl wM JB JO O)<|QR (vs:=[_]) I I I JO I .here (DV (by first | omega | (simp only[ax];omega)) (((Qm (i3.U') ((i2.k-1)+i3.i)-(((t89*Qm l55 (i3.i))+i3.br)%1000000000))+1000000000))) wS<|QE<|Qk<|QC<|QB ?_
    refine QJD I<|QA (Qv I I O)<|wB 2 I ?_
    exact Ql (⟨i3.i+1,((i3.U').set ((i2.k-1)+i3.i) (((Qm (i3.U') ((i2.k-1)+i3.i)-(((t89*Qm l55 (i3.i))+i3.br)%1000000000))+1000000000))),((((t89*Qm l55 (i3.i))+i3.br)/1000000000)+1),O,i3.h.step O (by rw[h9];omega) (by rw[h9];omega) (by rw[h9,<-hd3];omega)⟩) (by show l55.length-(i3.i+1)<l55.length-i3.i;omega) we QJZ λF h=>⟨h.1,trivial⟩
   have hx:=QKd hc;refine QKr 6 I<|QA (Qv I I O)<|QJD I<|QA (JL (i:=(i2.k-1)+i3.i) rfl wM JB JO O)<|QR (vs:=[_]) I I I JO I .here (DV (by first | omega | (simp only[ax];omega)) ((Qm (i3.U') ((i2.k-1)+i3.i)-(((t89*Qm l55 (i3.i))+i3.br)%1000000000)))) wS<|QE<|Qk<|QKs 3 I<|QA (Qv I I O)<|wB 2 I ?_
   exact Ql (⟨i3.i+1,((i3.U').set ((i2.k-1)+i3.i) ((Qm (i3.U') ((i2.k-1)+i3.i)-(((t89*Qm l55 (i3.i))+i3.br)%1000000000)))),(((t89*Qm l55 (i3.i))+i3.br)/1000000000),O,i3.h.step O (by rw[h9];omega) (by rw[h9];omega) (by rw[h9,<-hd3];omega)⟩) (by show l55.length-(i3.i+1)<l55.length-i3.i;omega) we QJZ λF h=>⟨h.1,trivial⟩
  have hi3:i3.i=m+2:=wk<|QKd hc
  refine Q2 ?_
  repeat first|refine QY ?_|refine QP wy ?_
  refine QZ<|QC<|QG ?_
  have hs3:gR B9 i2.U l55 (i2.k-1) t89 (m+2) i3.U' i3.br:=by have:=i3.h;rw[hi3]at this;exact this
  have hd3:Qm i3.U' ((i2.k-1)+(m+2))=Qm i2.U ((i2.k-1)+(m+2)):=Gf hs3.hi (av _);have hS:=hs3.stop Td l55l O;rw[<-hd3]at hS;have bu4:=i2.du.Qm XU ((i2.k-1)+(m+2));rw[h9,<-hd3]at bu4;have htp:=hS.tp;have hz1:dv B9 (i2.U.drop ((i2.k-1)+(m+2)+1))=0:=by rw[show(i2.k-1)+(m+2)+1=i2.k+(m+2) by omega];exact hz0
  refine wA 4 I<|QA (Qv I I O)<|wB 3 I<|QA (Qv I I O)<|QA (JL (i:=(i2.k-1)+(m+2)) I wM JB JO O)<|QA (Vz (c:=(i3.U').map Jn++rest) (T':=3) rfl JO .here (WQ (by first | omega | (simp only[ax];omega))))<|QJD I<|QA (X6 I I O)<|QA (JL (i:=(i2.k-1)+(m+2)) I wM JB JO O)<|QR (vs:=[_]) I I I JO I .here (DV (by first | omega | (simp only[ax];omega)) ((Qm (i3.U') ((i2.k-1)+(m+2))-i3.br))) wS<|QKq 8 I<|QA (Qv I I O)<|QA (JL (i:=(i2.k-1)+(m+2)) I wM JB JO O) ?_
  refine QA (Vz (c:=(((i3.U').set ((i2.k-1)+(m+2)) ((Qm (i3.U') ((i2.k-1)+(m+2))-i3.br)))).map Jn++rest) (T':=3) rfl JO .here (WQ (by first | omega | (simp only[ax];omega))))<|QKq 3 I ?_
  refine QO I (λhc=>?_) λhc=>?_
  ·have hneg:Qm i3.U' ((i2.k-1)+(m+2))-i3.br<0:=by have:=QKc hc;rw[htp]at this;exact this
   refine wR I<|QA (X6 I I O)<|QKq 15 I<|JW (ι:=QKX (i3.U'.set ((i2.k-1)+(m+2)) (Qm i3.U' ((i2.k-1)+(m+2))-i3.br)) l55 (i2.k-1) (m+2)) [(8,_),(9,_),(10,_),(11,_),(12,_),(13,_),(14,_)] (λi4=>[(19,.int .i64 (i4.c)),(20,.int .i64 ((i4.i:Nat):Int))]) (λi4=>[(bu,.cells (i4.U'.map Jn++rest).toArray 3 (0,0)),(bq,.cells (i2.Q.map Jn).toArray 3 (0,0))]) (λi4 F=>True) (λi4=>m+2-i4.i) (⟨0,_,0,aK _,I4.start hS.dg⟩) wY wT QJZ w8 λi4=>?_
   simp only[ah,ai];have hle4:=i4.le;have lU4:=i4.h.len;rw[ax]at lU4;have c40:=i4.h.c0;have c41:=i4.h.c1;refine wA 8 I ?_;refine QO I (λhc=>?_) λhc=>?_
   ·have hi4:i4.i<m+2:=wk<|QKc hc
    have bu5:=i4.h.Qm Td hi4;have bv5:=d55.Qm XU i4.i;rw[h9]at bu5 bv5;have hd4:=Gf i4.h.hi (av _);refine QKr 5 I<|JK QJZ mixed wm<|QK (QD I)<|QK (QD I)<|QK (QD I)<|QK (Qv I I O)<|QK (JL (i:=(i2.k-1)+i4.i) rfl wM JB JO O)<|QK (Vz (c:=(i4.U').map Jn++rest) (T':=3) rfl JO .here (WQ (by first | omega | (simp only[ax];omega))))<|QK (QD I)<|QK (QD I)<|QK (Q6 (n:=(m+2)) (i4.i) (λF h9=>(h9.1.1.1.1.1.1.2.1).1) rfl rfl JB JO O)<|QK (JA (n:=(m+2)) ((i4.i)*1) (λF h9=>(h9.1.1.1.1.1.1.2.1).1) O rfl JO (J6 (o:=l55) O))<|QK (Qv I I O)<|QK (QD I)<|QK (Qv I I O)<|QK (QF I)<|Q5<|QKs 4 I ?_
    refine wB 2 I<|QA (Qv I I O)<|QJD I<|QA (Hp I I O O)<|QA (JL (i:=(i2.k-1)+i4.i) rfl wM JB JO O)<|QR (vs:=[_]) I I I JO I .here (DV (by first | omega | (simp only[ax];omega)) ((((Qm (i4.U') ((i2.k-1)+i4.i)+Qm l55 (i4.i))+i4.c)%1000000000))) wS<|QKq 4 I<|QA (Sd I I O O O)<|wB 2 I<|Qk<|QKs 3 I<|QA (Qv I I O)<|wB 2 I ?_
    exact Ql (⟨i4.i+1,((i4.U').set ((i2.k-1)+i4.i) ((((Qm (i4.U') ((i2.k-1)+i4.i)+Qm l55 (i4.i))+i4.c)%1000000000))),(((Qm (i4.U') ((i2.k-1)+i4.i)+Qm l55 (i4.i))+i4.c)/1000000000),O,i4.h.step hi4 (by rw[ax];omega) (by rw[h9];omega) O (by rw[h9,<-hd4];omega)⟩) (by show m+2-(i4.i+1)<m+2-i4.i;omega) we QJZ λF h=>⟨h.1,trivial⟩
   have hi4:i4.i=m+2:=wk<|QKd hc
   refine Q2 ?_
   repeat first|refine QY ?_|refine QP wy ?_
   refine QZ<|QC ?_
   have hA4:Ig.I4 B9 (i3.U'.set ((i2.k-1)+(m+2)) (Qm i3.U' ((i2.k-1)+(m+2))-i3.br)) l55 (i2.k-1) (m+2) (m+2) i4.U' i4.c:=by have:=i4.h;rw[hi4]at this;exact this
   have hd5:Qm i4.U' ((i2.k-1)+(m+2))=Qm i3.U' ((i2.k-1)+(m+2))-i3.br:=by rw[Gf hA4.hi (av _)];exact htp
   have hS5:cE B9 i2.U l55 (i2.k-1) (m+2) t89 (i3.U'.set ((i2.k-1)+(m+2)) (Qm i3.U' ((i2.k-1)+(m+2))-i3.br)) (Qm i4.U' ((i2.k-1)+(m+2))):=by rw[hd5];exact hS
   obtain⟨g1,g2,g3,g4,g5⟩:=hA4.QHn Td hS5 i2.du d55 l55l hz1 O (by rw[hd5];exact hneg) t2;have lU4:=i4.h.len;rw[ax]at lU4;have b5:Qm i4.U' ((i2.k-1)+(m+2))=Qm i3.U' ((i2.k-1)+(m+2))-i3.br:=hd5;refine wA 4 I<|QA (Qv I I O)<|wB 3 I<|QA (Qv I I O)<|QA (JL (i:=(i2.k-1)+(m+2)) I wM JB JO O)<|QA (Vz (c:=(i4.U').map Jn++rest) (T':=3) rfl JO .here (WQ (by first | omega | (simp only[ax];omega))))<|QJD I<|QA (Qv I I O)<|QA (JL (i:=(i2.k-1)+(m+2)) I wM JB JO O)<|QR (vs:=[_]) I I I JO I .here (DV (by first | omega | (simp only[ax];omega)) ((Qm (i4.U') ((i2.k-1)+(m+2))+i4.c))) wS<|QKq 6 I<|QA (JL (i:=(i2.k-1)) I wM JB JO O)<|QR (vs:=[_]) I I I JO I .u1 (SQ (by first | omega | (simp only[ax];omega)) ((t89-1))) wS<|QE<|Qk ?_
   refine QKs 3 I<|QA (X6 I I O)<|wB 2 I ?_
   exact Ql (i2.next hk0 O (t:=t89-1) g4 O g1 g2 g3 g5) (by show i2.k-1<i2.k;omega) wX QJZ λF h=>⟨h.1.1.1.1,trivial⟩
  have hneg:0<=Qm i3.U' ((i2.k-1)+(m+2))-i3.br:=by have:=QKd hc;rw[htp]at this;omega
  obtain⟨g1,g2,g3⟩:=hS.QHn Td O hneg (by rw[h9];omega) t3;refine QKr 6 I<|QA (JL (i:=(i2.k-1)) I wM JB JO O)<|QR (vs:=[_]) I I I JO I .u1 (SQ (by first | omega | (simp only[ax];omega)) (t89)) wS<|QE<|Qk<|QKs 3 I<|QA (X6 I I O)<|wB 2 I ?_
  exact Ql (i2.next hk0 O (t:=t89) t0 t1 g1 g2 g3 hS.len) (by show i2.k-1<i2.k;omega) wX QJZ λF h=>⟨h.1.1.1,trivial⟩
 have hk0:i2.k=0:=wk<|QKd hc
 refine Q2 ?_
 repeat first|refine QY ?_|refine QP wy ?_
 refine QZ<|QC<|QG ?_
 obtain⟨s1,s2⟩:=i2.stop hk0 db da e55 f2 hb d55 l55l;have lt40:=Ve (i2.U.take (m+2));rw[ay]at lt40;refine Vv (b:=bu) .here<|Vv (b:=bq) .here<|JK QJZ mixed wm<|QK (QD I)<|QK (QD I)<|QK (Nh (m+2) rfl rfl rfl JB JO O)<|QM I (λ_ _ f k=>UN f (r:=⟨some ⟨bu,0,none⟩,m+2,cu⟩) ((XD.own k.1.2 i2.lu hcu).take O) (by rw[ay];omega)) λc196=>QK (QD I)<|QK (Q6 (n:=1) (0) (λF h9=>(Qw.of (n:=1) (sz:=1) h9.1.1.1.1.1.1.2 I)) I wM JB JO O)<|QK (JA (n:=1) ((0)*1) (λF h9=>(Qw.of (n:=1) (sz:=1) h9.1.1.1.1.1.1.2 I)) O rfl JO I)<|QM I (λ_ _ f k=>jv f (a:=Je (i2.U.take (m+2))) (ra:=⟨some ⟨bu,0,none⟩,(Je (i2.U.take (m+2))).length,cu⟩) k.2 ((i2.du.take _).Je) O (f2) (f3)) λc200=>QK (QD I)<|QK (QX I I)<|QK (QX I I)<|QK (QF I)<|QK (QF I)<|Q5<|QC<|wR I<|QI I (λ_ _ f k=>UN f (r:=⟨some ⟨bq,0,none⟩,a.length+1-(m+2),a.length+1-(m+2)⟩) (XD.QJo k.1.1.2 i2.lq (av _)) O) λc204=>wB 3 I ?_
 refine QJC<|QW ?_
 exact JY (((⟨some ⟨bq,0,none⟩,(Je i2.Q).length,a.length+1-(m+2)⟩,Je i2.Q),(c200.1.1,c200.1.2)):(Sr×List Int)×(Sr×List Int)) I (wO I I) (rfl) λF h9=>⟨⟨h9.2,i2.dq.Je,Zv _,by show dv B9 (Je i2.Q)=_;rw[ZH];exact s1⟩,h9.1.2.1,h9.1.2.2.1,h9.1.2.2.2.1,QEY O (by rw[<-s2,<-ZH];exact h9.1.2.2.2.2.2.2.1) h9.1.2.2.2.2.1 h9.1.2.2.2.2.2.1⟩
section
variable{P:Program}{N:Nat}{m:Sl}{S:World->Prop}{ty:TypeId}
def dA(P:Program)(T:TypeId):Bool:=match P.underlying T with
 |some .bool=>true
 |_=>false
def QGb(h:dA P T=true):P.underlying T=some .bool:=by
 unfold dA at h;split at h
 ·assumption
 cases h
theorem zi(hT:dA P T=true)(a b:Bool)(w:World):(Op.equal T (.bool a) (.bool b)).run P w = .ok (a==b) w:=by
 have e:∃n,Op.maxDepth=n+1:=⟨Op.maxDepth-1,wu⟩;obtain⟨n,e⟩:=e;unfold Op.equal;rw[e];unfold Op.equalIn;simp[run_underlying (QGb hT)]
theorem QHQ{x:Operand}{a b:Bool}(hT:dA P T=true)(hx:ev m x=some (.bool a))(hy:ev m y=some (.bool b)):Qt P N m S (.binOp .eql T x y yT) ty (.bool (a==b)):=λs w _ _ _ _ ha _=>by
 simp only[execOp,ha.ev hx,ha.ev hy,eqGuard,binOp,fL,fK,e9,zi hT];rfl
theorem QHP{x:Operand}{a b:Bool}(hT:dA P T=true)(hx:ev m x=some (.bool a))(hy:ev m y=some (.bool b)):Qt P N m S (.binOp .neq T x y yT) ty (.bool (!(a==b))):=λs w _ _ _ _ ha _=>by
 simp only[execOp,ha.ev hx,ha.ev hy,eqGuard,binOp,fL,fK,e9,zi hT];rfl
end
structure Ri where
 neg:Bool
 r:Sr
 l:List Int
@[reducible] def Ri.v (x:Ri):Value:=.agg #[.bool x.neg,.slice x.r.q x.r.n x.r.cap]
def LR(neg:Bool)(l:List Int):Int:=if neg=true then -dv B9 l else dv B9 l
def ME(F:Gs)(x:Ri)(z:Int):Prop:=XD F x.r x.l/\DG B9 x.l/\NZ x.l/\z=LR x.neg x.l/\(x.neg=true->0<dv B9 x.l)
def ME.le{F':Gs}{x:Ri}(h:ME F x z)(k:Gs.le F F'):ME F' x z:=⟨h.1.le k,h.2⟩
abbrev LK(P:Program)(f:FuncId)(args:List Value)(w:World)(F:Gs)(z:Int):Prop:=QT P f args w F Ri.v λx F=>ME F x z
structure SG(neg:Bool)(l:List Int)(z:Int):Prop where
 dg:DG B9 l
 nz:NZ l
 e:z=LR neg l
 ng:neg=true->0<dv B9 l
def ME.p{x:Ri}(h:ME F x z):SG x.neg x.l z:=⟨h.2.1,h.2.2.1,h.2.2.2.1,h.2.2.2.2⟩
def SG.v0{neg:Bool}(h:SG neg l z):0<=dv B9 l:=JJ XU h.dg
def SG.abs{neg:Bool}(h:SG neg l z):(z.natAbs:Int)=dv B9 l:=by
 have:=h.v0;rw[h.e,LR];split<;>omega
theorem QJt(h:DG B9 l)(z:NZ l):l.length<=sz (dv B9 l):=by
 rcases aC l.length with g | g
 ·omega
 have h1:=R3 XU h z (by intro e;rw[e]at g;simp at g);have h2:=MH (dv B9 l);have h3:=JJ XU h;rcases aW (sz (dv B9 l)) l.length with q | q
 ·exfalso;have h4:(2:Int)^(l.length-1)<=B9^(l.length-1):=by
   have:∀n:Nat,(2:Int)^n<=B9^n:=by
    intro n
    induction n with
    |zero=>simp
    |succ n ih =>
     rw[aQ,aQ];exact bQ ih wu wu (Int.le_of_lt (pow_pos XU n))
   exact this _
  have h5:(2:Int)^sz (dv B9 l)<=2^(l.length-1):=Ig.X0 wu O;have h6:((dv B9 l).natAbs:Int)<((2^sz (dv B9 l):Nat):Int):=Int.ofNat_lt.2 h2;rw[eK]at h6;have:((2:Nat):Int)=2:=rfl;rw[this]at h6;omega
 exact q
def SG.len{neg:Bool}(h:SG neg l z):l.length<=sz z:=by
 have:=QJt h.dg h.nz;have e:sz (dv B9 l)=sz z:=by
  rw[<-h.abs];unfold sz;simp
 omega
def SG.neg{neg:Bool}(h:SG neg l z):neg=decide (z<0):=by
 have h0:=h.v0;cases neg with
 |true=>have:=h.ng I;have e:=h.e;simp only[LR,if_true]at e;symm;rw[decide_eq_true_eq];omega
 |false=>have e:=h.e;simp only[LR]at e;symm;rw[decide_eq_false_iff_not];simp at e;omega
def SG.zero{neg:Bool}(h:SG neg l z):l=[]↔z=0:=by
 have:=W9 Td h.dg h.nz;have e:=h.abs;rw[<-this];omega
def QEI(h:DG B9 l):(0<(Je l).length)↔0<dv B9 l:=by
 have h1:=W9 Td h.Je (Zv l);rw[ZH]at h1;have h2:=JJ XU h;rw[<-eU]at h1;omega
theorem Hn{r:Sr}{neg:Bool}(hF:Fits F w)(hR:XD F r l)(dg:DG B9 l)(hl:l.length<=1000000000):LK prog 165 [.bool neg,r.v] w F (LR neg l):=by
 obtain⟨q,n,c⟩:=r;have hn:=hR.2.1;dsimp only[Sr.v]at hn ⊢;have hlz:=Ve l;have htp:=QEI dg;have hv0:=JJ XU dg;refine QT.intro (G:=λF=>XD F ⟨q,n,c⟩ l) func165 rfl wy rfl rfl hF (λF' hF'=>hR.le hF')<|QKO<|Qc Wi λb4=>QJC<|wR rfl<|QI rfl (λ_ _ f k=>UN f (r:=⟨q,n,c⟩) k (hl)) λc6=>wQ rfl<|wR rfl<|QJD rfl ?_
 refine Qs (t:=8) rfl (λhb8=>?_) λhb8=>?_
 ·refine wB 3 I<|QA (Qg I JB)<|wB 4 I<|QA (Qx I QEe Wi (wP I I I))<|QR (vs:=[_,_]) I I I J9 I .here .h2 wT<|QJC<|QW ?_
  exact QQ ((⟨decide ((((Je l).length:Nat):Int)>0),⟨q,(Je l).length,c⟩,Je l⟩:Ri)) I (.JZ (c:=[_,_]) I J9 .here .nil) (rfl) λF ⟨hR,h6⟩=>⟨h6,dg.Je,Zv _,by show LR neg l=LR (decide ((((Je l).length:Nat):Int)>0)) (Je l);rw[LR,LR,ZH];cases neg<;>simp_all<;>omega,λhh=>by show 0<dv B9 (Je l);rw[ZH];simp_all⟩
 refine wB 5 I<|QA (Qx I QEe Wi (wP I I I))<|QR (vs:=[_,_]) I I I J9 I .here .h2 wT<|QJC<|QW ?_
 exact QQ ((⟨false,⟨q,(Je l).length,c⟩,Je l⟩:Ri)) I (.JZ (c:=[_,_]) I J9 .here .nil) (rfl) λF ⟨hR,h6⟩=>⟨h6,dg.Je,Zv _,by show LR neg l=LR false (Je l);rw[LR,LR,ZH];cases neg<;>simp_all<;>omega,λhh=>by show 0<dv B9 (Je l);rw[ZH];simp_all⟩
theorem QDL:dA prog 4=true:=wm
def QGS{x y:Int}(h:YG x y>=0):y<=x:=by
 unfold YG at h;split at h
 ·omega
 split at h<;>omega
def QFE{x y:Int}(h:¬YG x y>=0):x<=y:=by
 unfold YG at h;split at h
 ·omega
 split at h<;>omega
theorem cx{x:Ri}(hF:Fits F w)(hx:ME F x zx)(hz:sz zx<=1000000):LK prog 162 [x.v] w F (-zx):=by
 obtain⟨xn,⟨xq,xm,xc⟩,xl⟩:=x;have px:=hx.p;have lx:=px.len;have kx:=hx.1.2.1;have vx:=px.v0;dsimp only at px lx kx vx;dsimp only[Ri.v];have eqn : -zx=LR (!xn) xl:=by rw[px.e];cases xn<;>simp[LR]
 refine QT.intro (G:=λF=>ME F ⟨xn,⟨xq,xm,xc⟩,xl⟩ zx) func162 rfl wy rfl rfl hF (λF' hF'=>hx.le hF')<|QKO<|Qu rfl (vs:=[_,_]) rfl λb1=>Qc Wi λb2=>QJC<|QKO<|QA (QH rfl Ek SI)<|QA (Qf rfl SI .u1 .h1)<|QA (XJ rfl)<|QA (QH rfl K2 Jz)<|QA (Qf rfl Jz .u1 (.skip .h1))<|QI rfl (λ_ _ f k=>Hn f (r:=⟨xq,xm,xc⟩) (l:=xl) (neg:=!xn) k.1 (px.dg) O) λc8=>QR (vs:=[_,_]) rfl rfl rfl J9 rfl .here .h2 wT<|QJC<|QW ?_
 exact QQ (c8) rfl (.JZ (c:=[_,_]) I J9 .here .nil) (rfl) λF h9=>(by rw[eqn];exact h9.2)
theorem DU{x y:Ri}{zy:Int}(hF:Fits F w)(hx:ME F x zx)(hy:ME F y zy)(hzx:sz zx<=1000000)(hzy:sz zy<=1000000):LK prog 67 [x.v,y.v] w F (zx*zy):=by
 obtain⟨xn,⟨xq,xm,xc⟩,xl⟩:=x;have px:=hx.p;have lx:=px.len;have kx:=hx.1.2.1;have vx:=px.v0;dsimp only at px lx kx vx;obtain⟨yn,⟨yq,ym,yc⟩,yl⟩:=y;have py:=hy.p;have ly:=py.len;have ky:=hy.1.2.1;have vy:=py.v0;dsimp only at py ly ky vy;dsimp only[Ri.v];refine QT.intro (G:=λF=>ME F ⟨xn,⟨xq,xm,xc⟩,xl⟩ zx/\ME F ⟨yn,⟨yq,ym,yc⟩,yl⟩ zy) func67 rfl wy rfl rfl hF (λF' hF'=>⟨hx.le hF',hy.le hF'⟩)<|QKO<|Qu rfl (vs:=[_,_]) rfl λb2=>Qu rfl (vs:=[_,_]) rfl λb3=>Qc Wi λb4=>QJC<|QG<|JK (.cons _ tC) mixed wm<|QK (QH rfl Ek SI)<|QK (Qf rfl SI .u1 .h1)<|QK (QH rfl Ek SI)<|QK (Qf rfl SI .here .h1)<|QK (QHP QDL rfl rfl)<|QK (QH rfl K2 Jz)<|QK (Qf rfl Jz .u1 (.skip .h1))<|QK (QH rfl K2 Jz)<|QK (Qf rfl Jz .here (.skip .h1)) ?_
 refine QM I (λ_ _ f k=>UP f (a:=xl) (b:=yl) (ra:=⟨xq,xm,xc⟩) (rb:=⟨yq,ym,yc⟩) k.1.1 (k.2.1) (px.dg) (py.dg) O (by first | omega | (simp;done) | (simp;omega))) (λc14=>?_);rcases c14 with ⟨v14,l14⟩;dsimp only;refine Yh _ (λw F hF ⟨⟨hx,hy⟩,⟨h14,h14p⟩⟩=>aP h14.2 h14p) (λp14=>?_);have eqn:zx*zy=LR (!(xn==yn)) l14:=by
  have e14:=p14.2.2.1;rw[px.e,py.e];unfold LR;rw[e14];cases xn<;>cases yn<;>simp[fQ,Int.neg_mul]
 have m14:=p14.2.2.2.2;refine QM I (λ_ _ f k=>Hn f (r:=v14) (l:=l14) (neg:=!(xn==yn)) k.2.1 (p14.2.1) O) (λc15=>JU (vs:=[_,_]) I I I J9 I .here tC (λ_ h=>h.1.1) .h2 wT<|Q5<|QC<|QW ?_);exact QQ (c15) rfl (.JZ (c:=[_,_]) I J9 .here .nil) (rfl) λF h9=>(by rw[eqn];exact h9.2)
theorem QCx{x y:Ri}{zy:Int}(hF:Fits F w)(hx:ME F x zx)(hy:ME F y zy)(hzx:sz zx<=1000000)(hzy:sz zy<=1000000):LK prog 66 [x.v,y.v] w F (zx+zy):=by
 obtain⟨xn,⟨xq,xm,xc⟩,xl⟩:=x;have px:=hx.p;have lx:=px.len;have kx:=hx.1.2.1;have vx:=px.v0;dsimp only at px lx kx vx;obtain⟨yn,⟨yq,ym,yc⟩,yl⟩:=y;have py:=hy.p;have ly:=py.len;have ky:=hy.1.2.1;have vy:=py.v0;dsimp only at py ly ky vy;dsimp only[Ri.v];refine QT.intro (G:=λF=>ME F ⟨xn,⟨xq,xm,xc⟩,xl⟩ zx/\ME F ⟨yn,⟨yq,ym,yc⟩,yl⟩ zy) func66 rfl wy rfl rfl hF (λF' hF'=>⟨hx.le hF',hy.le hF'⟩)<|QKO<|Qu rfl (vs:=[_,_]) rfl λb2=>Qu rfl (vs:=[_,_]) rfl λb3=>Qc Wi λb4=>QKq 5 I<|QA (QH rfl Ek SI)<|QA (Qf rfl SI .u2 .h1)<|QA (QH rfl Ek SI)<|QA (Qf rfl SI .u1 .h1)<|QA (QHQ QDL rfl rfl)<|QE<|QC ?_
 refine QO I (λhc=>?_) λhc=>?_
 ·have hne:xn=yn:=by simpa using hc
  refine QG<|JK (.cons _ tC) mixed wm<|QK (QH I Ek SI)<|QK (Qf I SI .u1 .h1)<|QK (QH I K2 Jz)<|QK (Qf I Jz .u1 (.skip .h1))<|QK (QH I K2 Jz)<|QK (Qf I Jz .here (.skip .h1)) ?_
  refine QM I (λ_ _ f k=>pA f (a:=xl) (b:=yl) (ra:=⟨xq,xm,xc⟩) (rb:=⟨yq,ym,yc⟩) k.1.1 (k.2.1) (px.dg) (py.dg) O (by first | omega | (simp;done) | (simp;omega))) (λc16=>?_);rcases c16 with ⟨v16,l16⟩;dsimp only;refine Yh _ (λw F hF ⟨⟨hx,hy⟩,⟨h16,h16p⟩⟩=>aP h16.2 h16p) (λp16=>?_);have eqn:zx+zy=LR xn l16:=by
   have e16:=p16.2.2.1;rw[px.e,py.e,hne];unfold LR;rw[e16];cases yn<;>simp<;>omega
  have m16:=p16.2.2.2;refine QM I (λ_ _ f k=>Hn f (r:=v16) (l:=l16) (neg:=xn) k.2.1 (p16.2.1) O) (λc17=>JU (vs:=[_,_]) I I I J9 I .here tC (λ_ h=>h.1.1) .h2 wT<|Q5<|QC<|QW ?_);exact QQ (c17) rfl (.JZ (c:=[_,_]) I J9 .here .nil) (rfl) λF h9=>(by rw[eqn];exact h9.2)
 have hne:xn=!yn:=by cases xn<;>cases yn<;>simp_all
 refine QKr 5 I<|QA (QH I K2 Jz)<|QA (Qf I Jz .u2 (.skip .h1))<|QA (QH I K2 Jz)<|QA (Qf I Jz .u1 (.skip .h1))<|QI I (λ_ _ f k=>TF f (a:=xl) (b:=yl) (ra:=⟨xq,xm,xc⟩) (rb:=⟨yq,ym,yc⟩) k.1.1 (k.2.1) (px.dg) (py.dg) (px.nz) (py.nz) O O) λ_=>QKq 3 I ?_
 refine QO I (λhc=>?_) λhc=>?_
 ·have hle:dv B9 yl<=dv B9 xl:=QGS (QKc hc);have hll:=Rc py.dg px.dg py.nz hle;refine QG<|JK (.cons _ tC) mixed wm<|QK (QH I Ek SI)<|QK (Qf I SI .u1 .h1)<|QK (QH I K2 Jz)<|QK (Qf I Jz .u1 (.skip .h1))<|QK (QH I K2 Jz)<|QK (Qf I Jz .here (.skip .h1)) ?_
  refine QM I (λ_ _ f k=>CF f (a:=xl) (b:=yl) (ra:=⟨xq,xm,xc⟩) (rb:=⟨yq,ym,yc⟩) k.1.1.1 (k.1.2.1) (px.dg) (py.dg) O O (hle)) (λc30=>?_);rcases c30 with ⟨v30,l30⟩;dsimp only;refine Yh _ (λw F hF ⟨⟨⟨hx,hy⟩,_⟩,⟨h30,h30p⟩⟩=>aP h30.2 h30p) (λp30=>?_);have eqn:zx+zy=LR xn l30:=by
   have e30:=p30.2.2.1;rw[px.e,py.e,hne];unfold LR;rw[e30];cases yn<;>simp<;>omega
  have m30:=p30.2.2.2;refine QM I (λ_ _ f k=>Hn f (r:=v30) (l:=l30) (neg:=xn) k.2.1 (p30.2.1) O) (λc31=>JU (vs:=[_,_]) I I I J9 I .here tC (λ_ h=>h.1.1) .h2 wT<|Q5<|QC<|QW ?_);exact QQ (c31) rfl (.JZ (c:=[_,_]) I J9 .here .nil) (rfl) λF h9=>(by rw[eqn];exact h9.2)
 have hle:dv B9 xl<=dv B9 yl:=QFE (QKd hc);have hll:=Rc px.dg py.dg px.nz hle;refine QKr 3 I<|JK (.cons _ tC) mixed wm<|QK (QH I Ek SI)<|QK (Qf I SI .here .h1)<|QK (QH I K2 Jz)<|QK (Qf I Jz .here (.skip .h1))<|QK (QH I K2 Jz)<|QK (Qf I Jz .u1 (.skip .h1)) ?_
 refine QM I (λ_ _ f k=>CF f (a:=yl) (b:=xl) (ra:=⟨yq,ym,yc⟩) (rb:=⟨xq,xm,xc⟩) k.1.2.1 (k.1.1.1) (py.dg) (px.dg) O O (hle)) (λc38=>?_);rcases c38 with ⟨v38,l38⟩;dsimp only;refine Yh _ (λw F hF ⟨⟨⟨hx,hy⟩,_⟩,⟨h38,h38p⟩⟩=>aP h38.2 h38p) (λp38=>?_);have eqn:zx+zy=LR yn l38:=by
  have e38:=p38.2.2.1;rw[px.e,py.e,hne];unfold LR;rw[e38];cases yn<;>simp<;>omega
 have m38:=p38.2.2.2;refine QM I (λ_ _ f k=>Hn f (r:=v38) (l:=l38) (neg:=yn) k.2.1 (p38.2.1) O) (λc39=>JU (vs:=[_,_]) I I I J9 I .here tC (λ_ h=>h.1.1) .h2 wT<|Q5<|QC<|QW ?_);exact QQ (c39) rfl (.JZ (c:=[_,_]) I J9 .here .nil) (rfl) λF h9=>(by rw[eqn];exact h9.2)
structure QKU(A B:Int) where
 ra:Sr
 rb:Sr
 a:List Int
 b:List Int
 da:DG B9 a
 db:DG B9 b
 za:NZ a
 zb:NZ b
 la:a.length<=10000000
 lb:b.length<=10000000
 nb:b.length=rb.n
 h:aZ (dv B9 a) (dv B9 b)=aZ A B
def QDq(x y:Int):aZ y (x%y)=aZ x y:=by
 rw[Int.gcd_comm y,fJ]
 first | rw[Int.gcd_sub_mul_left_left] | rw[Int.gcd_sub_mul_right_left] | rw[Int.gcd_sub_mul_left] | simp
theorem gh(hF:Fits F w)(hA:XD F ra a)(hB:XD F rb b)(da:DG B9 a)(db:DG B9 b)(za:NZ a)(zb:NZ b)(la:a.length<=10000000)(lb:b.length<=10000000):
  QT prog 159 [ra.v,rb.v] w F (λ(c:Sr×List Int)=>.slice c.1.q c.1.n c.1.cap) (λc F=>XD F c.1 c.2/\DG B9 c.2/\NZ c.2/\dv B9 c.2=(aZ (dv B9 a) (dv B9 b):Int)):=by
 refine QT.intro (G:=λF=>XD F ra a/\XD F rb b) func159 rfl wy rfl rfl hF (λF' hF'=>⟨hA.le hF',hB.le hF'⟩)<|QKO<|wQ rfl<|QG<|QV<|JW (ι:=QKU (dv B9 a) (dv B9 b)) [] (λi=>[(0,.slice i.ra.q i.ra.n i.ra.cap),(1,.slice i.rb.q i.rb.n i.rb.cap)]) (λi=>[]) (λi F=>XD F i.ra i.a/\XD F i.rb i.b) (λi=>(dv B9 i.b).toNat) (⟨ra,rb,a,b,da,db,za,zb,la,lb,hB.2.1,rfl⟩) trivial wT QJZ w9 λi=>?_
 simp only[ah,ai];have hla:=i.la;have hlb:=i.lb;have hnb:=i.nb;refine wA 4 I<|QA (Qg I JB)<|QKq 3 I ?_
 refine QO I (λhc=>?_) λhc=>?_
 ·have hpos:0<dv B9 i.b:=by
   have h1:=W9 Td i.db i.zb;have h2:=JJ XU i.db;rw[<-eU]at h1;have:=QKc hc;omega
  have hm0:=bY (dv B9 i.a) (Int.ne_of_gt hpos);have hm1:=bR (dv B9 i.a) hpos;refine QKr 3 I<|wR rfl<|QJD rfl<|QI rfl (λ_ _ f k=>UR f (a:=i.a) (b:=i.b) (ra:=i.ra) (rb:=i.rb) k.2.1 (k.2.2) (i.da) (i.db) (i.za) (i.zb) (hpos) O O) λc13=>QJD rfl<|QA (QX rfl rfl)<|QA (QX rfl rfl)<|QJE rfl<|wQ rfl<|XQ _ (λ_ _ f h=>aP h.2.2.2 h.2.2.1.2.1) λq13=>?_
  obtain⟨q13,n13⟩:=q13;refine wA 6 I<|Qk ?_
  exact Ql (⟨i.rb,c13.2.1,i.b,c13.2.2,i.db,q13.1,i.zb,q13.2.1,i.lb,by have:=Rc q13.1 i.db q13.2.1 (by rw[q13.2.2];omega);omega,n13,by rw[q13.2.2,QDq];exact i.h⟩) (by show(dv B9 c13.2.2).toNat<(dv B9 i.b).toNat;rw[q13.2.2];omega) wT QJZ λF h9=>⟨⟨h9.1.1.1,h9.1.1.2⟩,⟨h9.1.2.2,h9.2.2.1⟩⟩
 have hz:i.b=[]:=by
  have:=QKd hc;exact aq O
 refine Q2 ?_
 repeat first|refine QY ?_|refine QP wy ?_
 refine QZ<|QKs 8 I ?_
 exact QQ ((i.ra,i.a):Sr×List Int) rfl (wN I) (rfl) λF h9=>⟨h9.2.1,i.da,i.za,by have e:=i.h;rw[hz,kg,Int.gcd_zero_right]at e;have:=JJ XU i.da;show dv B9 i.a=_;omega⟩
section
variable{P:Program}{N:Nat}{m:Sl}{S:World->Prop}{ty:TypeId}
def QEa{x:Operand}{a b:Int}(hx:ev m x=some (.int .i64 a))(hy:ev m y=some (.int .i64 b))(h:1<b)(h0 : -9223372036854775808<=a)(h1:a<=9223372036854775807):Qt P N m S (.binOp .quo T x y yT) ty (.int .i64 (a.tdiv b)):=by
 have:=gj (P:=P) (N:=N) (m:=m) (S:=S) (ty:=ty) (T:=T) (yT:=yT) hx hy O;have e:=eM a b;have e2:a.natAbs.div b.natAbs<=a.natAbs:=eI _ _;have e3:a.natAbs.div b.natAbs<=a.natAbs/2:=Nat.div_le_div_left O wu;rw[eE _ O]at this;exact this
end
def dh(neg:Bool)(m:Nat):Int:=if neg=true then -(m:Int)else(m:Int)
def QF4(neg:Bool)(m:Nat):(dh neg m).tmod 1000000000=dh neg (m%1000000000):=by
 unfold dh;split
 ·rw[Int.neg_tmod];exact congrArg Neg.neg (fl m 1000000000).symm
 exact(fl m 1000000000).symm
def QCw(neg:Bool)(m:Nat):(dh neg m).tdiv 1000000000=dh neg (m/1000000000):=by
 unfold dh;split
 ·rw[Int.neg_tdiv];exact congrArg Neg.neg (fm m 1000000000).symm
 exact(fm m 1000000000).symm
theorem QES(n:Int):n=dh (decide (n<0)) n.natAbs:=by
 unfold dh;by_cases h:n<0
 ·simp[h];omega
 simp[h];omega
def qU(neg:Bool)(m:Nat):dh neg m=m\/dh neg m = -(m:Int):=by
 unfold dh;split
 ·exact .inr rfl
 exact .inl rfl
structure WhI(M:Nat) where
 m:Nat
 out:List Int
 v:Value
 ob:List (Nat×Obj)
 le:m<=M
 l3:out.length<=3
 dg:DG B9 out
 h:dv B9 out+B9^out.length*(m:Int)=M
 hr:Q7 3 1 v out.length (out.map Jn) ob
theorem WhI.two{M:Nat}(i:WhI M)(hM:M<=9223372036854775808)(h0:0<i.m):i.out.length<=2:=by
 rcases aW 2 i.out.length with g | g
 ·exfalso;have e:i.out.length=3:=wk i.l3;have h:=i.h;have h1:=JJ XU i.dg;rw[e]at h;have h2:B9^3*1<=B9^3*(i.m:Int):=aj O wu;have h3:B9^3=1000000000000000000000000000:=wu;rw[h3]at h2 h;omega
 exact g
def QCp{m M:Nat}(h:dv B9 l+B9^l.length*(m:Int)=M):dv B9 (l++[((m%1000000000:Nat):Int)])+B9^(l++[((m%1000000000:Nat):Int)]).length*((m/1000000000:Nat):Int)=M:=by
 rw[ZA,aB,aL,aQ,bV,fy,<-bL,<-h];have e:((m%1000000000:Nat):Int)+B9*((m/1000000000:Nat):Int)=m:=by
  have h9:B9=1000000000:=rfl;rw[h9];omega
 rw[e]
theorem LA{n:Int}(hF:Fits F w)(hn : -9223372036854775808<=n/\n<=9223372036854775807):LK prog 98 [.int .i64 n] w F n:=by
 refine QT.intro (G:=λF=>True) func98 rfl wy rfl rfl hF w8<|QKO<|Qc Wi λb2=>QJC<|QKO<|wQ rfl<|wR rfl<|QA (QU rfl rfl rfl)<|wQ rfl<|QG<|QV<|JW (ι:=WhI n.natAbs) [(2,_),(4,_)] (λi=>[(0,.int .i64 (dh (decide (n<0)) i.m)),(3,i.v)]) (λi=>(b2,.cells [.bool false,.slice none 0 0].toArray 123 (0,0))::i.ob) (λi F=>True) (λi=>i.m) (⟨n.natAbs,[],.slice none 0 0,[],av _,wz,DG.nil _,wz,.nil⟩) wT ⟨congrArg (λz:Int=>some (ag .i64 z)) (QES n),rfl,trivial⟩ QJZ w8 λi=>?_
 simp only[ah,ai];have hle:=i.le;have hM:n.natAbs<=9223372036854775808:=O;have hcs:=qU (decide (n<0)) i.m;have hsr : -9223372036854775808<=dh (decide (n<0)) i.m/\dh (decide (n<0)) i.m<=9223372036854775807:=by unfold dh;split<;>rename_i g<;>simp at g<;>omega
 refine wA 7 I ?_;refine QO I (λhc=>?_) λhc=>?_
 ·have h9:B9=1000000000:=rfl;have hm0:0<i.m:=by
   rcases aC i.m with g | g
   ·rw[g]at hc;cases hd:decide (n<0)<;>simp[dh,hd]at hc
   exact g
  have l2:=i.two hM hm0;refine QKr 6 I<|QA (QC0 I I wu) ?_
  rw[QF4];refine QKq 10 I ?_;refine QO I (λhc=>?_) λhc=>?_
  ·have e1:dh (decide (n<0)) (i.m%1000000000) = -(((i.m%1000000000):Nat):Int):=by
    have:=QKc hc;rcases qU (decide (n<0)) (i.m%1000000000)with g | g<;>omega
   rw[e1];refine wA 2 I<|QA (X6 I I O)<|QKq 7 I<|Qb I (Qz JB) JO Pp I I λb18=>Zi (bs':=[(b2,.cells [.bool false,.slice none 0 0].toArray 123 (0,0))]++i.ob) (bJ _) ?_
   refine Ys (ob:=i.ob) (k:=1) (sz:=1) (news:=[.int .i64 (0 - -(((i.m%1000000000):Nat):Int))]) I I JB JO Pp I Og i.hr (Src.row (off:=0) tB (λj v hv=>by rw[aU];show([.int .i64 (0 - -(((i.m%1000000000):Nat):Int))].toArray)[j]?=some v;rw[aE];exact hv) rfl) O O (Kh wS) (λv19 ob19 hr19=>?_);refine QKq 5 I<|QA (QEa I I wu O O) ?_
   rw[QCw];refine wB 2 I<|Qk ?_
   exact Ql (⟨i.m/1000000000,i.out++[(((i.m%1000000000):Nat):Int)],v19,ob19,O,by rw[aB,aL];omega,i.dg.append (DG.cons O (by show _<B9;rw[h9];omega) (DG.nil _)),QCp i.h,by simpa[Jn]using hr19⟩) (by show i.m/1000000000<i.m;omega) wV QJZ λF h=>⟨h.1.1,trivial⟩
  have e1:dh (decide (n<0)) (i.m%1000000000)=(((i.m%1000000000):Nat):Int):=by
   have:=QKd hc;rcases qU (decide (n<0)) (i.m%1000000000)with g | g<;>omega
  rw[e1];refine QKr 6 I<|Qb I (Qz JB) JO Pp I I λb18=>Zi (bs':=[(b2,.cells [.bool false,.slice none 0 0].toArray 123 (0,0))]++i.ob) (bJ _) ?_
  refine Ys (ob:=i.ob) (k:=1) (sz:=1) (news:=[.int .i64 ((((i.m%1000000000):Nat):Int))]) I I JB JO Pp I Og i.hr (Src.row (off:=0) tB (λj v hv=>by rw[aU];show([.int .i64 ((((i.m%1000000000):Nat):Int))].toArray)[j]?=some v;rw[aE];exact hv) rfl) O O (Kh wS) (λv19 ob19 hr19=>?_);refine QKq 5 I<|QA (QEa I I wu O O) ?_
  rw[QCw];refine wB 2 I<|Qk ?_
  exact Ql (⟨i.m/1000000000,i.out++[(((i.m%1000000000):Nat):Int)],v19,ob19,O,by rw[aB,aL];omega,i.dg.append (DG.cons O (by show _<B9;rw[h9];omega) (DG.nil _)),QCp i.h,by simpa[Jn]using hr19⟩) (by show i.m/1000000000<i.m;omega) wV QJZ λF h=>⟨h.1.1,trivial⟩
 have hm0:i.m=0:=by
  rcases hcs with g | g
  ·rw[g]at hc;simp at hc;exact hc
  rw[g]at hc;simp at hc;exact hc
 refine Q2 ?_
 repeat first|refine QY ?_|refine QP wy ?_
 refine QZ<|QC<|QG ?_
 have hfin:=i.h;rw[hm0]at hfin;have l3:=i.l3;obtain⟨r,hv,hrn,hrc,hfix⟩:=Q7.fix (w0:=w) (F0:=F) (bs1:=[(b2,.cells [.bool false,.slice none 0 0].toArray 123 (0,0))]) (G:=λF=>True/\True) i.hr;refine jy hfix ?_;rw[hv];refine wA 3 I<|QI I (λ_ _ f k=>Hn f (r:=r) (l:=i.out) (neg:=decide (n<0)) ⟨by rw[hrn];exact k.2,by rw[hrn],O⟩ (i.dg) O) λc24=>QR (vs:=[_,_]) I I I J9 I .here .h2 wT<|QJC<|QW ?_
 have e:n=LR (decide (n<0)) i.out:=by
  have e2:=QES n;unfold LR;unfold dh at e2;split at e2<;>rename_i hs<;>simp only[hs]<;>simp<;>omega
 exact QQ (c24) rfl (.JZ (c:=[_,_]) I J9 .here .nil) (rfl) λF ⟨⟨⟨hT,_⟩,hX⟩,h24⟩=>(by rw[<-e]at h24;exact h24)
theorem SO{x:Int}{least:Nat}(hF:Fits F w)(h0:0<=x)(hn:x<=9223372036854775807)(hl:least<=1000):Qe prog 100 [.int .i64 x,.int .i64 (least:Int)] w F (tx (jQ x.toNat least)):=by
 have:=QBT (n:=x.toNat) (least:=least) hF O hl;rw[er h0]at this;exact this
def kq(h:0<n):jQ n 1=ak n:=by
 have hne:(ak n).length≠0:=λe=>V5 n (aq e);unfold jQ hd H6;rw[if_neg O,show 1-(ak n).length=0 by omega];rfl
theorem gz(n:Nat):jQ n 9=H6 9 (ak n):=by
 unfold jQ hd;split
 ·rename_i h;subst h;rw[YZ];decide
 rfl
theorem LV(h:n<1000000000):(jQ n 9).length=9:=by
 rw[gz,QAJ];have:=Kj (u:=n) (k:=9) O wu;rw[bj];exact this
structure TxI(l:List Int) where
 k:Nat
 s:List UInt8
 le:k<l.length
 ps:0<dv B9 (l.drop k)
 sl:s.length<=20+9*(l.length-k)
 h:s=ak (dv B9 (l.drop k)).toNat
theorem LF(hd:DG B9 l)(hz:NZ l)(h0:0<l.length):dv B9 (l.drop (l.length-1))=Qm l (l.length-1)/\0<Qm l (l.length-1):=by
 have e:=Xo (l:=l) (k:=l.length-1) O;rw[bF (i:=l.length-1+1) O]at e;refine⟨by rw[e];simp[dv],?_⟩;obtain⟨h1,_⟩:=pP (n:=l.length-1) hd hz O;omega
def TxI.start{l:List Int}(hd:DG B9 l)(hz:NZ l)(h0:0<l.length):TxI l:=⟨l.length-1,jQ (Qm l (l.length-1)).toNat 1,O,by rw[(LF hd hz h0).1];exact(LF hd hz h0).2,by
  have b:=hd.Qm XU (l.length-1);have h9:B9=1000000000:=rfl;rw[kq (wk<|(LF hd hz h0).2),bj];have:=Kj (u:=(Qm l (l.length-1)).toNat) (k:=9) (by rw[h9]at b;omega) wu;omega,by
  rw[kq (wk<|(LF hd hz h0).2),(LF hd hz h0).1]⟩
def TxI.add(i:TxI l)(hd:DG B9 l)(hk:0<i.k):dv B9 (l.drop (i.k-1))=Qm l (i.k-1)+B9*dv B9 (l.drop i.k):=by
 have hle:=i.le;rw[Xo O,Vc,show i.k-1+1=i.k by omega]
def TxI.next{l:List Int}(i:TxI l)(hd:DG B9 l)(hk:0<i.k):TxI l:=⟨i.k-1,i.s++jQ (Qm l (i.k-1)).toNat 9,wk i.le,by
  rw[i.add hd hk];have b:=hd.Qm XU (i.k-1);have p:=i.ps;have:B9*1<=B9*dv B9 (l.drop i.k):=aj O wu;have h9:B9=1000000000:=rfl;omega,by
  have b:=hd.Qm XU (i.k-1);have h9:B9=1000000000:=rfl;rw[h9]at b;have hle:=i.le;have hsl:=i.sl;rw[aB,LV O];omega,by
  have b:=hd.Qm XU (i.k-1);have h9:B9=1000000000:=rfl;rw[h9]at b;have p:=i.ps;have e:=Wr (q:=(dv B9 (l.drop i.k)).toNat) O 9 (Qm l (i.k-1)).toNat wu O;rw[gz,i.h,<-e,i.add hd hk];congr 1;generalize dv B9 (l.drop i.k)=D at *
  rw[h9];omega⟩
theorem dn{x:Ri}(hF:Fits F w)(hx:ME F x zx)(hz:sz zx<=1000000):Qe prog 164 [x.v] w F (tx (Zn zx)):=by
 obtain⟨xn,⟨xq,xm,xc⟩,xl⟩:=x;have px:=hx.p;have lx:=px.len;have kx:=hx.1.2.1;have vx:=px.v0;dsimp only at px lx kx vx;dsimp only[Ri.v];have h9:B9=1000000000:=rfl;refine QT.intro (G:=λF=>ME F ⟨xn,⟨xq,xm,xc⟩,xl⟩ zx) func164 rfl wy rfl rfl hF (λF' hF'=>hx.le hF')<|QKO<|Qu rfl (vs:=[_,_]) rfl λb1=>wQ rfl<|QG<|QKO<|QA (QH rfl K2 Jz)<|QA (Qf rfl Jz .here (.skip .h1))<|QA (Qg rfl JB)<|QA (QU rfl rfl rfl)<|QE<|QC ?_
 refine QO I (λhc=>?_) λhc=>?_
 ·have hx0:zx=0:=(px.zero).1 (aq (by have:=hc;simp at this;omega));refine wA 6 I ?_;exact QKx I I (by rw[hx0,XO wu];exact congrArg (λl=>tx l) YZ) w8
 have hl0:0<xl.length:=by
  rcases aC xm with g | g
  ·rw[g]at hc;simp at hc
  omega
 obtain⟨d1,d2⟩:=LF px.dg px.nz hl0;have b0:=px.dg.Qm XU (xl.length-1);rw[h9]at b0;refine QKr 4 I<|QA (QH I K2 Jz)<|QA (Qf I Jz .here (.skip .h1))<|QA (QH I K2 Jz)<|QA (Qf I Jz .here (.skip .h1))<|QA (Qg I JB)<|QA (X6 I I O)<|QA (Q6 (n:=xm) (xl.length-1) (λF hx=>(hx.1).1) rfl wM JB JO O)<|QA (JA (n:=xm) ((xl.length-1)*1) (λF hx=>(hx.1).1) O rfl JO (J6 (o:=xl) O))<|QI I (λ_ _ f k=>SO f (least:=1) O O O) λ_=>QKq 6 I<|QA (QH I K2 Jz)<|QA (Qf I Jz .here (.skip .h1))<|QA (Qg I JB)<|QA (X6 I I O)<|wB 2 I ?_
 refine QC<|QV<|XM (ι:=TxI xl) [(1,_)] (λi=>[(3,tx i.s),(4,.int .i64 ((i.k:Int)-1))]) (λi=>i.k) (TxI.start px.dg px.nz hl0) wS ⟨rfl,(congrArg (λz:Int=>some (ag .i64 z)) (by simp only[TxI.start];omega)),trivial⟩ λi=>?_
 simp only[ah,ai];have hle:=i.le;have hsl:=i.sl;refine wA 7 I ?_;refine QO I (λhc=>?_) λhc=>?_
 ·have hk0:0<i.k:=wk<|QKc hc
  have b1:=px.dg.Qm XU (i.k-1);rw[h9]at b1;have ln:=LV (n:=(Qm xl (i.k-1)).toNat) O;refine QKr 6 I<|QA (QH I K2 Jz)<|QA (Qf I Jz .here (.skip .h1))<|QJD I<|QA (Q6 (n:=xm) (i.k-1) (λF h9=>(h9.1.1).1) rfl wM JB JO O)<|QA (JA (n:=xm) ((i.k-1)*1) (λF h9=>(h9.1.1).1) O rfl JO (J6 (o:=xl) O))<|QI I (λ_ _ f k=>SO f (least:=9) O O O) λ_=>QA (Ye I I O)<|wB 2 I<|Qk<|QKs 3 I<|QA (X6 I I O)<|wB 2 I ?_
  exact Ql (i.next px.dg hk0) (by show i.k-1<i.k;omega) ⟨rfl,rfl,(congrArg (λz:Int=>some (ag .i64 z)) (by simp only[TxI.next];omega)),trivial⟩ QJZ tA
 have hk0:i.k=0:=wk<|QKd hc
 have hi:=i.h;rw[hk0,bD]at hi;have ha:=px.abs;refine Q2 ?_
 repeat first|refine QY ?_|refine QP wy ?_
 refine QZ<|QKs 4 I<|QA (QH I Ek SI)<|QA (Qf I SI .here .h1)<|QE<|QC ?_
 refine QO I (λhc=>?_) λhc=>?_
 ·have hneg:zx<0:=by have:=px.neg;rw[hc]at this;exact QKc this.symm
  refine wR I<|QA (Ye I I w6)<|wQ I<|QW ?_
  exact QKx I I (by rw[Ki hneg,hi];exact congrArg (λn=>tx (45::ak n)) O) w8
 have hneg:¬zx<0:=by have:=px.neg;rw[hc]at this;exact QKd this.symm
 refine QKr 9 I ?_;exact QKx I I (by rw[XO O,hi];exact congrArg (λn=>tx (ak n)) O) w8
structure PaI(s:List UInt8) where
 s':List UInt8
 out:List Int
 v:Value
 ob:List (Nat×Obj)
 dg:DG B9 out
 al:ZJ s'=true
 ll:s'.length+9*out.length<=s.length
 h:(Jb s':Int)*B9^out.length+dv B9 out=Jb s
 hr:Q7 3 1 v out.length (out.map Jn) ob
def QAQ:((10^9:Nat):Int)=B9:=wu
theorem QGA{s:List UInt8}{out:List Int}(h:(Jb s:Int)*B9^out.length+dv B9 out=z)(hl:9<=s.length):(Jb (s.take (s.length-9)):Int)*B9^(out++[(Jb (s.drop (s.length-9)):Int)]).length+dv B9 (out++[(Jb (s.drop (s.length-9)):Int)])=z:=by
 have e:=Kd (s.take (s.length-9)) (s.drop (s.length-9));rw[bX,aN,show s.length-(s.length-9)=9 by omega]at e;rw[ZA,aB,aL,aQ,<-h,e,Int.natCast_add,fj,QAQ];generalize B9^out.length=p;generalize ((Jb (s.take (s.length-9)):Nat):Int)=a;generalize ((Jb (s.drop (s.length-9)):Nat):Int)=b;generalize B9=B
 grind
def L4(h:au s [45]=true):1<=s.length:=by
 rcases aC s.length with g | g
 ·rw[aq g]at h;simp[au]at h
 omega
def QHR{t:List UInt8}{out:List Int}(h:(Jb t:Int)*B9^out.length+dv B9 out=Jb (aa s [45])):LR (au s [45]) (out++[(Jb t:Int)])=Y7 s:=by
 have e:dv B9 (out++[(Jb t:Int)])=Jb (aa s [45]):=by
  rw[ZA,<-h,aJ];omega
 unfold LR Y7;rw[e];unfold aa;cases au s [45]<;>simp
def gW{s:List UInt8}(h:ZJ s=true)(hl:s.length<=9):(Jb s:Int)<B9:=by
 have h1:=He h;have h2:10^s.length<=10^9:=aV wu hl;have h3:=QAQ;omega
theorem TE(hF:Fits F w)(hs:ZJ (aa s [45])=true)(hl:s.length<=1000000):LK prog 161 [tx s] w F (Y7 s):=by
 refine QT.intro (G:=λF=>True) func161 rfl wy rfl rfl hF w8<|QKO<|Qc Wi λb2=>QE<|QC ?_
 refine YS [(0,_),(2,_)] [(3,.bool (au s [45]))] wT ?_ ?_
 ·refine wA 2 I<|QA (X7 I Zo)<|wB 2 I ?_
  refine Qs (t:=8) rfl (λhb8=>?_) λhb8=>?_
  ·refine wB 3 I<|QA (Hq (i:=0) rfl rfl Zo (wk<|QKc hb8))<|wB 5 I ?_
   exact Jg ⟨rfl,rfl,(congrArg (λb=>some (ae b)) (by have h0:0<s.length:=(wk<|QKc hb8);rw[EP h0];exact Ag I)),trivial⟩ QJZ w9
  refine wB 6 I ?_;exact Jg ⟨rfl,rfl,(congrArg (λb=>some (ae b)) (by have h0:s.length=0:=(wk<|QKd hb8);rw[aq h0];rfl)),trivial⟩ QJZ w9
 simp only[ah,ai];refine YS [(2,_),(3,_)] [(0,tx (aa s [45]))] wT ?_ ?_
 ·refine wA 5 I ?_;refine QO I (λhc=>?_) λhc=>?_
  ·refine wA 2 I<|QA (GG (1) rfl rfl Zo I (L4 hc))<|wB 2 I ?_
   exact Jg ⟨rfl,rfl,(congrArg (λl=>some (tx l)) (by unfold aa;rw[if_pos hc];rfl)),trivial⟩ QJZ w9
  refine QN ?_;exact Jg ⟨rfl,rfl,(congrArg (λl=>some (tx l)) (by unfold aa;rw[hc];rfl)),trivial⟩ QJZ w9
 simp only[ah,ai];have hln:(aa s [45]).length<=s.length:=Ak _ _;refine wA 7 I<|JW (ι:=PaI (aa s [45])) [(2,_),(3,_)] (λi=>[(0,tx i.s'),(4,i.v)]) (λi=>(b2,.cells [.bool false,.slice none 0 0].toArray 123 (0,0))::i.ob) (λi F=>True) (λi=>i.s'.length) (⟨aa s [45],[],.slice none 0 0,[],DG.nil _,hs,wz,wz,.nil⟩) wT wT QJZ w8 λi=>?_
 simp only[ah,ai];have hll:=i.ll;refine wA 4 I<|QA (X7 I Zo)<|QKq 3 I ?_
 refine QO I (λhc=>?_) λhc=>?_
 ·have h9:9<i.s'.length:=wk<|QKc hc
  refine QKr 8 I<|QA (X7 I Zo)<|QA (X6 I I O)<|QA (GG (i.s'.length-9) rfl rfl Zo wM O)<|QI I (λ_ _ f k=>CE f (Tu i.al _) (by rw[aN];omega)) λ_=>Qb I (Qz JB) JO Pp I I λb26=>Zi (bs':=[(b2,.cells [.bool false,.slice none 0 0].toArray 123 (0,0))]++i.ob) (bJ _) ?_
  refine Ys (ob:=i.ob) (k:=1) (sz:=1) (news:=[.int .i64 ((Jb (i.s'.drop (i.s'.length-9)):Int))]) I I JB JO Pp I Og i.hr (Src.row (off:=0) tB (λj v hv=>by rw[aU];show([.int .i64 ((Jb (i.s'.drop (i.s'.length-9)):Int))].toArray)[j]?=some v;rw[aE];exact hv) rfl) O O (Kh wS) (λv27 ob27 hr27=>?_);refine QKq 6 I<|QA (X7 I Zo)<|QA (X6 I I O)<|QA (Mw (i.s'.length-9) rfl rfl Zo wM O)<|wB 2 I<|Qk ?_
  exact Ql (⟨i.s'.take (i.s'.length-9),i.out++[(Jb (i.s'.drop (i.s'.length-9)):Int)],v27,ob27,i.dg.append (DG.cons O (gW (Tu i.al _) (by rw[aN];omega)) (DG.nil _)),Mm i.al _,by rw[ay,aB,aL];omega,QGA i.h O,by simpa[Jn]using hr27⟩) (by show(i.s'.take (i.s'.length-9)).length<i.s'.length;rw[ay];omega) wV QJZ λF h=>⟨h.1.1.1,trivial⟩
 have h9:i.s'.length<=9:=wk<|QKd hc
 refine Q2 ?_
 repeat first|refine QY ?_|refine QP wy ?_
 refine QZ<|QKs 6 I<|QI I (λ_ _ f k=>CE f (i.al) O) λ_=>Qb I (Qz JB) JO Pp I I λb37=>Zi (bs':=[(b2,.cells [.bool false,.slice none 0 0].toArray 123 (0,0))]++i.ob) (bJ _) ?_
 refine Ys (ob:=i.ob) (k:=1) (sz:=1) (news:=[.int .i64 ((Jb i.s':Int))]) I I JB JO Pp I Og i.hr (Src.row (off:=0) tB (λj v hv=>by rw[aU];show([.int .i64 ((Jb i.s':Int))].toArray)[j]?=some v;rw[aE];exact hv) rfl) O O (Kh wS) (λv38 ob38 hr38=>?_);obtain⟨r,hv,hrn,hrc,hfix⟩:=Q7.fix (w0:=w) (F0:=F) (bs1:=[(b2,.cells [.bool false,.slice none 0 0].toArray 123 (0,0))]) (G:=_) hr38;refine YB hfix ?_;rw[hv];refine QI I (λw F hF ⟨⟨⟨⟨hT,_⟩,_⟩,hs37⟩,hX⟩=>Hn hF (r:=r) (l:=i.out++[(Jb i.s':Int)]) (neg:=au s [45]) ⟨by rw[hrn];simpa[Jn]using hX,by rw[hrn];simp,O⟩ (i.dg.append (DG.cons O (gW i.al h9) (DG.nil _))) (by first | omega | (simp;omega))) (λc39=>QR (vs:=[_,_]) I I I J9 I .here .h2 wT<|QJC<|QW ?_);exact QQ (c39) rfl (.JZ (c:=[_,_]) I J9 .here .nil) (rfl) λF ⟨⟨⟨⟨⟨hT,_⟩,_⟩,hs37⟩,hX⟩,h39⟩=>(by rw[QHR i.h]at h39;exact h39)
theorem LD(z:Int):(Zn z).length<=sz z+2:=by
 have h:(ak z.natAbs).length<=sz z+1:=by
  rw[bj];refine Kj ?_ O;have h1:=MH z;have h2:2^sz z<=10^sz z:=ek wu _;have h3:10^sz z<=10^(sz z+1):=aV wu O;omega
 rcases bM z 0 with g | g
 ·rw[Ki g,aO];omega
 rw[XO g];omega
def pY(n:Nat):(ak n).length<=sz (n:Int)+1:=by
 rw[bj];refine Kj ?_ O;have h1:=MH (n:Int);have h2:2^sz (n:Int)<=10^sz (n:Int):=ek wu _;have h3:10^sz (n:Int)<=10^(sz (n:Int)+1):=aV wu O;simp at h1;omega
def Eb(x:Rat):(Jh x).length<=2*JQ x+4:=by
 have h1:=LD x.num;have h2:=pY x.den;have h3:=Jw x;have h4:=Jp x;unfold Jh;split
 ·omega
 rw[aB,aO];omega
def dD{l:List UInt8}(h:l.contains 47=false):l.all (λc=>!Zx c)=true:=by
 rw[fe];intro c hc;have:c≠47:=by rintro rfl;simp[hc]at h
 simp[Zx,this]
def Pm(z:Int):(Zn z).contains 47=false:=Mx z wu wu
def qT(h:x.den=1):Jh x=Zn x.num/\ahead Zx (Jh x)=(Jh x).length:=by
 have e:Jh x=Zn x.num:=by unfold Jh;rw[if_pos h]
 exact⟨e,by rw[e];exact dF (dD (Pm _))⟩
def Ng(h:x.den≠1):ahead Zx (Jh x)=(Zn x.num).length/\ahead Zx (Jh x)<(Jh x).length/\(Jh x).take (ahead Zx (Jh x))=Zn x.num/\(Jh x).drop (ahead Zx (Jh x)+1)=ak x.den:=by
 have e:Jh x=Zn x.num++47::ak x.den:=by unfold Jh;rw[if_neg h]
 have h1:ahead Zx (Jh x)=(Zn x.num).length:=by
  refine dE (by rw[e];simp) ?_ ?_
  ·rw[e,List.take_append_of_le_length (av _),aM];exact dD (Pm _)
  simp[e,Zx]
 rw[h1];refine⟨rfl,by rw[e];simp,?_,?_⟩
 ·rw[e];simp
 rw[e,List.drop_append];simp
theorem zU(x:Rat):(ahead Zx (Jh x)=(Jh x).length)↔x.den=1:=by
 constructor
 ·intro h;by_cases g:x.den=1
  ·exact g
  have:=(Ng g).2.1;omega
 intro h;exact(qT h).2
def gn(z:Int):ZJ (aa (Zn z) [45])=true:=by rw[Hm];exact Jx _
def QDt(n:Nat):ZJ (aa (ak n) [45])=true:=by rw[WL (Jx n)];exact Jx _
def QDY(n:Nat):Y7 (ak n)=n:=by rw[YN (Jx n),Xd]
@[reducible] def Ri.v2 (c:Ri×Ri):Value:=.tuple #[c.1.v,c.2.v]
theorem M9(hF:Fits F w)(hl:JQ x<=100000):QT prog 64 [tx (Jh x)] w F Ri.v2 (λc F=>ME F c.1 x.num/\ME F c.2 x.den):=by
 have hlen:=Eb x;refine QT.intro (G:=λF=>True) func64 rfl wy rfl rfl hF w8<|QKO<|Qc Wi λb2=>Qc Wi λb3=>QJC<|wR rfl<|wQ rfl<|wR rfl<|QI rfl (λ_ _ f k=>TD f O) λ_=>wQ rfl<|QG<|wR rfl<|QJD rfl ?_
 refine QA (X7 I Zo)<|QKq 3 I ?_
 refine QO I (λhc=>?_) λhc=>?_
 ·have hd:x.den=1:=(zU x).1 (by have:(ahead Zx (Jh x):Int)=((Jh x).length:Int):=(by simpa using hc);omega);rw[(qT hd).1];refine wR I<|QI I (λ_ _ f k=>TE f (gn _) (by have:=LD x.num;have:=Jw x;omega)) λc14=>QI I (λ_ _ f k=>LA f wu) λc15=>QR (vs:=[_,_]) I I I J9 I .u1 .h2 wT<|QR (vs:=[_,_]) I I I J9 I .here .h2 wT<|QJC<|QW ?_
  exact JY ((c14,c15):Ri×Ri) rfl (.JZ (c:=[_,_]) I J9 .u1 (.JZ (c:=[_,_]) I J9 .here .nil)) (rfl) λF ⟨⟨⟨hT,_⟩,h14⟩,h15⟩=>⟨by rw[Kt]at h14;exact h14,by have e:(x.den:Int)=1:=(by rw[hd];rfl);rw[e];exact h15⟩
 have hd:¬x.den=1:=λg=>by have:=(zU x).2 g;rw[this]at hc;simp at hc
 obtain⟨k1,k2,k3,k4⟩:=Ng hd;refine QKr 3 I<|JK (.cons _ (.cons _ .slnil)) mixed wm<|QK (QD I)<|QK (QD I)<|QK (Mw (ahead Zx (Jh x)) I I Zo I O) ?_
 rw[k3];refine QM I (λ_ _ f k=>TE f (gn _) (by have:=LD x.num;have:=Jw x;omega)) (λc19=>QK (QD I)<|QK (QD I)<|QK (Qv I I O)<|QK (GG ((ahead Zx (Jh x)+1)) I I Zo wM O) ?_);rw[k4];refine QM I (λ_ _ f k=>TE f (QDt _) (by have:=pY x.den;have:=Jp x;omega)) (λc24=>JU (vs:=[_,_]) I I I J9 I .u1 (.cons _ .slnil) (λ_ h=>h.1.1) .h2 wT<|JU (vs:=[_,_]) I I I J9 I .here (.cons _ .slnil) (λ_ h=>h.1.1) .h2 wT<|Q5<|QC<|QW ?_);exact JY ((c19,c24):Ri×Ri) rfl (.JZ (c:=[_,_]) I J9 .u1 (.JZ (c:=[_,_]) I J9 .here .nil)) (rfl) λF ⟨⟨⟨hT,_⟩,Td⟩,h24⟩=>⟨by rw[Kt]at Td;exact Td,by rw[QDY]at h24;exact h24⟩
structure QKR(zx zy:Int) where
 n:Ri
 d:Ri
 zn:Int
 zd:Int
 h:0<zd
 e:ao zn zd=ao zx zy
 sn:sz zn<=500000
 sd:sz zd<=500000
theorem QGN{n d:Int}(h:0<d){neg:Bool}{l p:List Int}(hn:SG neg l n)(hp:dv B9 p=dv B9 l/(aZ n d:Int)):LR neg p=(ao n d).num:=by
 rw[(V4 h).1];have hg:(0:Int)<(aZ n d:Int):=wk (Gz (x:=n) h);obtain⟨k,hk⟩:=fh (a:=n) (b:=d);have e:=hn.e;have hv:=hn.v0;unfold LR at e ⊢;rw[hp];cases neg with
 |true =>
  simp only[if_true]at e ⊢;have e2:dv B9 l=(aZ n d:Int)*(-k):=by rw[fQ,<-hk];omega
  rw[e2,eV _ O];have e3:n/(aZ n d:Int)=k:=by
   conv=>lhs;lhs;rw[hk]
   exact eV _ O
  rw[e3];omega
 |false =>
  simp only[Bool.false_eq_true,if_false]at e ⊢;rw[<-e]
def QGO{n d:Int}(h:0<d){neg:Bool}{l p:List Int}(hn:SG neg l d)(hp:dv B9 p=dv B9 l/(aZ n d:Int)):dv B9 p=((ao n d).den:Int):=by
 rw[(V4 h).2,hp];have:=hn.abs;congr 1;omega
def QAb{n d:Int}{a b:Bool}{m:List Int}(hn:SG a l n)(hd:SG b m d):aZ (dv B9 l) (dv B9 m)=aZ n d:=by
 rw[<-hn.abs,<-hd.abs];simp[aZ]
def QAg(x y:Int):ao (-x) (-y)=ao x y:=fb x y
theorem yh(h:DG B9 l)(hz:NZ l):(l.length=1/\Qm l 0=1)↔dv B9 l=1:=by
 constructor
 ·rintro⟨h1,h2⟩;obtain⟨x,rfl⟩:=List.length_eq_one_iff.1 h1;simp[Qm]at h2;simp[dv,h2]
 intro e;have:l=[1]:=ue Td h (DG.cons wu wu (DG.nil _)) hz (by simp[NZ]) (by rw[e];simp[dv]);subst this;exact⟨rfl,rfl⟩
def QCz(h:(x.den:Int)=1):Zn x.num=Jh x:=by unfold Jh;rw[if_pos O]
theorem dx(h:¬(x.den:Int)=1):Zn x.num++[47]++Zn (x.den:Int)=Jh x:=by
 unfold Jh;rw[if_neg O,XO (z:=(x.den:Int)) O];simp
theorem NB{x y:Ri}{zy:Int}(hF:Fits F w)(hx:ME F x zx)(hy:ME F y zy)(h0:zy≠0)(hzx:sz zx<=500000)(hzy:sz zy<=500000):Qe prog 65 [x.v,y.v] w F (tx (Jh (ao zx zy))):=by
 obtain⟨xn,⟨xq,xm,xc⟩,xl⟩:=x;have px:=hx.p;have lx:=px.len;have kx:=hx.1.2.1;have vx:=px.v0;dsimp only at px lx kx vx;obtain⟨yn,⟨yq,ym,yc⟩,yl⟩:=y;have py:=hy.p;have ly:=py.len;have ky:=hy.1.2.1;have vy:=py.v0;dsimp only at py ly ky vy;dsimp only[Ri.v];have hny:=py.neg;refine QT.intro (G:=λF=>ME F ⟨xn,⟨xq,xm,xc⟩,xl⟩ zx/\ME F ⟨yn,⟨yq,ym,yc⟩,yl⟩ zy) func65 rfl wy rfl rfl hF (λF' hF'=>⟨hx.le hF',hy.le hF'⟩)<|QKO<|Qu rfl (vs:=[_,_]) rfl λb2=>Qu rfl (vs:=[_,_]) rfl λb3=>QJE rfl<|QE<|QC ?_
 refine SV (ι:=QKR zx zy) [(2,_),(3,_)] (λi=>[]) (λi=>[(b3,.cells [.bool i.d.neg,.slice i.d.r.q i.d.r.n i.d.r.cap].toArray 123 (0,0)),(b2,.cells [.bool i.n.neg,.slice i.n.r.q i.n.r.n i.n.r.cap].toArray 123 (0,0))]) (λi F=>ME F i.n i.zn/\ME F i.d i.zd) wT ?_ ?_
 ·refine QKO<|QA (QH I Ek SI)<|QA (Qf I SI .here .h1)<|QE<|QC ?_
  refine QO I (λhc=>?_) λhc=>?_
  ·refine Js 4 QJZ mixed wm wm ?_;simp only[List.take_succ_cons,List.take_zero,List.drop_succ_cons,bD];refine QK (wH I J9 .u1)<|QM I (λ_ _ f k=>cx f (x:=⟨xn,⟨xq,xm,xc⟩,xl⟩) k.1 O) λc14=>QK (wH I J9 .here)<|QM I (λ_ _ f k=>cx f (x:=⟨yn,⟨yq,ym,yc⟩,yl⟩) k.1.2 O) λc16=>Za<|QR (vs:=[_,_]) I I I J9 I .u1 .h2 wT<|QR (vs:=[_,_]) I I I J9 I .here .h2 wT<|QE ?_
   exact ZQ (⟨c14,c16,-zx,-zy,by rw[hc]at hny;have:=QKc hny.symm;omega,QAg _ _,by rw[Vf];exact hzx,by rw[Vf];exact hzy⟩) wT QJZ λF h9=>⟨⟨h9.1.1.1,h9.1.1.2⟩,⟨h9.1.2,h9.2⟩⟩
  refine QN ?_;exact ZQ (⟨⟨xn,⟨xq,xm,xc⟩,xl⟩,⟨yn,⟨yq,ym,yc⟩,yl⟩,zx,zy,by rw[hc]at hny;have:=QKd hny.symm;omega,rfl,hzx,hzy⟩) wT QJZ λF ⟨hx,hy⟩=>⟨⟨hx,hy⟩,⟨hx,hy⟩⟩
 intro i;simp only[ah,ai];refine XQ _ (λ_ _ f h=>aP h.2.1.p (aP h.2.2.p (aP h.2.1.1.2.1 h.2.2.1.2.1))) (λpp=>?_);obtain⟨pn,pd,kn,kd⟩:=pp;have ln:=pn.len;have ld:=pd.len;have hsn:=i.sn;have hsd:=i.sd;have hi:=i.h;have gg:=QAb pn pd;have q1:=VA (a:=i.zn) (b:=i.zd) O;have q2:=Jw (ao i.zn i.zd);have q3:=Jp (ao i.zn i.zd);have q4:sz (ao i.zn i.zd).num<=500000:=O;have q5:sz ((ao i.zn i.zd).den:Int)<=500000:=O;refine QKO<|QA (QH I K2 Jz)<|QA (Qf I Jz .u1 (.skip .h1))<|QA (QH I K2 Jz)<|QA (Qf I Jz .here (.skip .h1)) ?_
 refine QI I (λ_ _ f k=>gh f (a:=i.n.l) (b:=i.d.l) (ra:=i.n.r) (rb:=i.d.r) k.2.1.1 (k.2.2.1) (pn.dg) (pd.dg) (pn.nz) (pd.nz) O O) (λc21=>?_);rcases c21 with ⟨v21,l21⟩;dsimp only;refine JN _ (λw F hF ⟨⟨⟨hx,hy⟩,⟨hN,hD⟩⟩,⟨h21,h21p⟩⟩=>aP h21.2 h21p) (λp21=>wQ rfl<|QG ?_);have g0:0<dv B9 l21:=by rw[p21.2.2.2,gg];have:=Gz (x:=i.zn) i.h;omega
 have l21l:l21.length<=i.d.l.length:=by
  refine Rc p21.2.1 pd.dg p21.2.2.1 ?_;rw[p21.2.2.2,gg];have h1:(aZ i.zn i.zd:Int)<=i.zd:=Int.le_of_dvd i.h (Int.gcd_dvd_right (a:=i.zn) (b:=i.zd));have h2:=pd.abs;omega
 refine QB<|QA (QH rfl K2 Jz)<|QA (Qf rfl Jz .u1 (.skip .h1))<|QJD rfl<|QI rfl (λ_ _ f k=>UR f (a:=i.n.l) (b:=l21) (ra:=i.n.r) (rb:=v21) k.1.2.1.1 (k.2.1) (pn.dg) (p21.2.1) (pn.nz) (p21.2.2.1) (g0) O O) λc26=>QJD rfl<|QA (QX rfl rfl)<|QA (QX rfl rfl)<|QJE rfl<|wQ rfl<|QG<|XQ _ (λ_ _ f h=>aP h.2.1.2 h.2.1.1.2.1) λp26=>?_
 obtain⟨p26,n26⟩:=p26;refine QB<|QA (QH rfl K2 Jz)<|QA (Qf rfl Jz .here (.skip .h1))<|QJD rfl<|QI rfl (λ_ _ f k=>UR f (a:=i.d.l) (b:=l21) (ra:=i.d.r) (rb:=v21) k.1.1.2.2.1 (k.1.2.1) (pd.dg) (p21.2.1) (pd.nz) (p21.2.2.1) (g0) O O) λc33=>QJD rfl<|QA (QX rfl rfl)<|QA (QX rfl rfl)<|QJE rfl<|wQ rfl<|QG<|XQ _ (λ_ _ f h=>aP h.2.1.2 h.2.1.1.2.1) λp33=>?_
 obtain⟨p33,n33⟩:=p33;have en:LR i.n.neg c26.1.2=(ao i.zn i.zd).num:=QGN i.h pn (by rw[p26.2.2,p21.2.2.2,gg]);have ed:dv B9 c33.1.2=((ao i.zn i.zd).den:Int):=QGO i.h pd (by rw[p33.2.2,p21.2.2.2,gg]);have ed2:LR false c33.1.2=((ao i.zn i.zd).den:Int):=by rw[<-ed];rfl
 have lnp:=Rc p26.1 pn.dg p26.2.1 (by rw[p26.2.2];exact bI _ pn.v0);have lnq:=Rc p33.1 pd.dg p33.2.1 (by rw[p33.2.2];exact bI _ pd.v0);have one1:=yh p33.1 p33.2.1;have lr1:=LD (ao i.zn i.zd).num;have lr2:=LD ((ao i.zn i.zd).den:Int);refine QB<|QA (QH I Ek SI)<|QA (Qf I SI .u1 .h1)<|QJD I<|QI I (λ_ _ f k=>Hn f (r:=c26.1.1) (l:=c26.1.2) (neg:=i.n.neg) k.1.2.1.1 (p26.1) (by first | omega | (simp;omega))) λc39=>QI I (λ_ _ f k=>dn f (zx:=(ao i.zn i.zd).num) (by rw[<-en];exact k.2) O) λ_=>QKq 7 I<|QA (Qg I JB)<|wB 2 I ?_
 refine Qs (t:=44) rfl (λhb44=>?_) λhb44=>?_
 ·have hn1:c33.1.1.n=1:=by simp at hb44;omega
  refine wB 3 I<|QA (Q6 (n:=c33.1.1.n) (0) (λF h9=>(h9.1.1.2.1.1).1) rfl wM JB JO O)<|QL I I<|QA (JA (n:=c33.1.1.n) ((0)*1) (λF h9=>(h9.1.1.2.1.1).1) O rfl JO (J6 (o:=c33.1.2) O))<|QKq 5 I ?_
  refine QO I (λhc=>?_) λhc=>?_
  ·refine wA 7 I ?_;exact QKx I I (by rw[<-i.e];exact congrArg (λl=>tx l) (QCz (by rw[<-ed];exact one1.1 ⟨O,by simpa using hc⟩)).symm) w8
  refine QKr 5 I<|QA (Ye I I w6)<|QJD I<|QI I (λ_ _ f k=>Hn f (r:=c33.1.1) (l:=c33.1.2) (neg:=false) k.1.1.2.1.1 (p33.1) (by first | omega | (simp;omega))) λc54=>QI I (λ_ _ f k=>dn f (zx:=((ao i.zn i.zd).den:Int)) (by rw[<-ed2];exact k.2) O) λ_=>QA (Ye I I w6)<|wQ I<|QW ?_
  exact QKx I I (by rw[<-i.e];exact congrArg (λl=>tx l) (dx λg=>by have:=one1.2 (by rw[ed];exact g);rw[this.2]at hc;simp at hc).symm) w8
 have hn1:c33.1.1.n≠1:=by simp at hb44;omega
 refine QKq 7 I<|YV I<|QKr 5 I<|QA (Ye I I w6)<|QJD I<|QI I (λ_ _ f k=>Hn f (r:=c33.1.1) (l:=c33.1.2) (neg:=false) k.1.1.2.1.1 (p33.1) (by first | omega | (simp;omega))) λc54=>QI I (λ_ _ f k=>dn f (zx:=((ao i.zn i.zd).den:Int)) (by rw[<-ed2];exact k.2) O) λ_=>QA (Ye I I w6)<|wQ I<|QW ?_
 exact QKx I I (by rw[<-i.e];exact congrArg (λl=>tx l) (dx λg=>by have:=one1.2 (by rw[ed];exact g);omega).symm) w8
def DI(x:Rat):Rat:=if x.num<0 then -x else x
def QEZ(x:Rat):(DI x).num=(x.num.natAbs:Int)/\(DI x).den=x.den:=by
 unfold DI;split
 ·exact⟨by rw[eY];omega,by rw[fO]⟩
 exact⟨O,rfl⟩
def QDb(h:z<0):Zn z=45::Zn (-z):=by
 rw[Ki h,XO (z:=-z) O];congr 2;omega
def CK(h:x.num<0):Jh x=45::Jh (-x):=by
 unfold Jh;rw[eY,fO,QDb h];split<;>rfl
theorem SP(x:Rat):au (Jh x) [45]=decide (x.num<0):=by
 by_cases h:x.num<0
 ·rw[CK h];simp[au,eF,h]
 have e:(decide (x.num<0))=false:=by simpa using h
 rw[e];unfold Jh;rw[XO O];have hd:=Jx x.num.natAbs;split
 ·exact Vh hd
 have hne:=V5 x.num.natAbs;cases hl:ak x.num.natAbs with
 |nil=>exact absurd hl hne
 |cons c r =>
  have:=Vh hd;rw[hl]at this;simpa[au,eF]using this
theorem QAB(x:Rat):aa (Jh x) [45]=Jh (DI x):=by
 unfold aa DI;rw[SP];by_cases h:x.num<0
 ·rw[if_pos (by simpa using h),if_pos h,CK h];rfl
 rw[if_neg (by simpa using h),if_neg h]
def QEM(x:Rat):JQ (DI x)=JQ x:=by
 unfold DI;split
 ·exact Vw x
 rfl
def QGj(x:Rat)(c:Int×Int×Bool):Prop:=c.2.2=true->c.1=x.num/\c.2.1=(x.den:Int)/\x.num.natAbs<1000000000/\x.den<1000000000
def zz{l:List UInt8}(h:ZJ l=true)(hl:l.length<=9):Jb l<1000000000:=by
 have h1:=He h;have h2:10^l.length<=10^9:=aV wu hl;omega
theorem CH(hF:Fits F w)(hl:JQ x<=100000):QT prog 63 [tx (Jh x)] w F (λ(c:Int×Int×Bool)=>.tuple #[.int .i64 c.1,.int .i64 c.2.1,.bool c.2.2]) (λc _=>QGj x c):=by
 have hlen:=Eb x;have hlen2:=Eb (DI x);rw[QEM]at hlen2;obtain⟨an,ad⟩:=QEZ x;have hah:=E2 Zx (Jh (DI x));have anT:Zn (DI x).num=ak x.num.natAbs:=by rw[an,XO O];rfl
 refine QT.intro (G:=λF=>True) func63 rfl wy rfl rfl hF w8<|QKO<|QJE rfl<|QJE rfl<|wQ rfl<|wR rfl<|wQ rfl<|QG<|wR rfl<|QA (X7 rfl Zo)<|QA (QU rfl rfl rfl)<|QE<|QC ?_
 refine QO I (λhc=>?_) λhc=>?_
 ·refine wA 8 I ?_;exact JY ((0,0,false):Int×Int×Bool) rfl (.tmp rfl (wO rfl rfl)) (rfl) λF hT=>λh=>by cases h
 refine QN<|QC ?_
 refine YS [(5,_)] [(6,.bool (decide (x.num<0)))] wS ?_ ?_
 ·refine wA 2 I<|QA (X7 I Zo)<|wB 2 I ?_
  refine Qs (t:=17) rfl (λhb17=>?_) λhb17=>?_
  ·refine wB 3 I<|QA (Hq (i:=0) rfl rfl Zo (wk<|QKc hb17))<|wB 5 I ?_
   exact Jg ⟨rfl,(congrArg (λb=>some (ae b)) (by have h0:0<(Jh x).length:=(wk<|QKc hb17);rw[<-SP,EP h0];exact Ag I)),trivial⟩ QJZ w9
  refine wB 6 I ?_;exact Jg ⟨rfl,(congrArg (λb=>some (ae b)) (by have h0:(Jh x).length=0:=(wk<|QKd hb17);rw[<-SP,aq h0];rfl)),trivial⟩ QJZ w9
 simp only[ah,ai];refine YS [(6,_)] [(5,tx (Jh (DI x)))] wS ?_ ?_
 ·refine wA 5 I ?_;refine QO I (λhc=>?_) λhc=>?_
  ·refine wA 2 I<|QA (GG (1) rfl rfl Zo I (by have:=L4 (s:=Jh x) (by rw[SP];exact hc);omega))<|wB 2 I ?_
   exact Jg ⟨rfl,(congrArg (λl=>some (tx l)) (by rw[<-QAB];unfold aa;rw[if_pos (by rw[SP];exact hc)];rfl)),trivial⟩ QJZ w9
  refine QN ?_;exact Jg ⟨rfl,(congrArg (λl=>some (tx l)) (by rw[<-QAB];unfold aa;rw[SP,hc];rfl)),trivial⟩ QJZ w9
 simp only[ah,ai];refine wR I<|QI I (λ_ _ f k=>TD f O) λ_=>QKq 9 I ?_
 refine Qs (t:=29) rfl (λhb29=>?_) λhb29=>?_
 ·refine QKq 8 I<|C9 I<|wA 8 I ?_
  exact JY ((0,0,false):Int×Int×Bool) rfl (.tmp rfl (wO rfl rfl)) (rfl) λF h9=>λh=>by cases h
 refine wB 3 I<|QA (X7 I Zo)<|wB 3 I<|QA (X6 I I O)<|QKq 5 I ?_
 refine QO I (λhc=>?_) λhc=>?_
 ·refine wA 8 I ?_;exact JY ((0,0,false):Int×Int×Bool) rfl (.tmp rfl (wO rfl rfl)) (rfl) λF h9=>λh=>by cases h
 have k9:ahead Zx (Jh (DI x))<=9/\(Jh (DI x)).length-ahead Zx (Jh (DI x))<=10:=by
  have ha:=E2 Zx (Jh (DI x))
  first | (simp at hc hb29;omega) | (simp at hc;omega)
 have kt:(Jh (DI x)).take (ahead Zx (Jh (DI x)))=Zn (DI x).num:=by
  by_cases hd:(DI x).den=1
  ·obtain⟨e1,e2⟩:=qT hd;rw[e2,aM,e1]
  exact(Ng hd).2.2.1
 have kr:Jb ((Jh (DI x)).take (ahead Zx (Jh (DI x))))=x.num.natAbs:=by rw[kt,anT,Xd]
 have hnum:x.num.natAbs<1000000000:=by
  have h1:=zz (l:=Zn (DI x).num) (by rw[anT];exact Jx _) (by rw[<-kt,ay];omega);rw[anT,Xd]at h1;exact h1
 have hdn:x.den<1000000000:=by
  rw[<-ad];by_cases hd:(DI x).den=1
  ·omega
  obtain⟨e1,e2,e3,e4⟩:=Ng hd;have h1:=zz (l:=ak (DI x).den) (Jx _) (by rw[<-e4,aN];omega);rw[Xd]at h1;exact h1
 refine QKr 6 I<|QA (Mw (ahead Zx (Jh (DI x))) I I Zo I O)<|QI I (λ_ _ f k=>CE f (by rw[kt,anT];exact Jx _) (by rw[ay];omega)) λ_=>?_
 rw[kr];refine QKq 4 I ?_;refine YS [(6,_),(8,_)] [(9,.int .i64 (x.den:Int))] wT ?_ ?_
 ·refine wA 4 I<|QA (X7 I Zo)<|QKq 3 I ?_
  refine QO I (λhc=>?_) λhc=>?_
  ·have hlt:=QKc hc;have hd:¬(DI x).den=1:=λg=>by have:=(zU (DI x)).2 g;have:=QKc hc;omega
   have kd:=(Ng hd).2.2.2;have kd2:Jb ((Jh (DI x)).drop (ahead Zx (Jh (DI x))+1))=x.den:=by rw[kd,Xd,ad]
   refine wA 3 I<|QA (Qv I I O)<|QA (GG ((ahead Zx (Jh (DI x))+1)) I I Zo wM O)<|QI I (λ_ _ f k=>CE f (by rw[kd];exact Jx _) (by rw[aN];omega)) λ_=>?_
   rw[kd2];refine wB 2 I ?_;exact Jg wU QJZ tA
  have hd:(DI x).den=1:=(zU (DI x)).1 (by have:=QKd hc;have:=E2 Zx (Jh (DI x));omega);refine QN ?_;exact Jg ⟨rfl,rfl,(congrArg (λz:Int=>some (ag .i64 z)) (by rw[<-ad,hd];rfl)),trivial⟩ QJZ w9
 simp only[ah,ai];have hden:x.den<1000000000:=hdn;refine YS [(9,_)] [(8,.int .i64 (x.num))] wS ?_ ?_
 ·refine wA 5 I ?_;refine QO I (λhc=>?_) λhc=>?_
  ·refine wA 2 I<|QA (X6 I I O)<|wB 2 I ?_
   exact Jg ⟨rfl,(congrArg (λz:Int=>some (ag .i64 z)) (wk<|QKc hc)),trivial⟩ QJZ w9
  refine QN ?_;exact Jg ⟨rfl,(congrArg (λz:Int=>some (ag .i64 z)) (wk<|QKd hc)),trivial⟩ QJZ w9
 simp only[ah,ai];refine wA 10 I ?_;exact JY ((x.num,(x.den:Int),true):Int×Int×Bool) rfl (.tmp rfl (wO I I)) (rfl) λF h9=>λ_=>⟨rfl,rfl,hnum,hden⟩
section
variable{P:Program}{N:Nat}{m:Sl}{S:World->Prop}{ty:TypeId}
def QHO{x:Operand}{a b:Int}(hx:ev m x=some (.int .i64 a))(hy:ev m y=some (.int .i64 b))(h:0<b)(h0 : -9223372036854775807<=a)(h1:a<=9223372036854775807):Qt P N m S (.binOp .quo T x y yT) ty (.int .i64 (a.tdiv b)):=by
 have:=gj (P:=P) (N:=N) (m:=m) (S:=S) (ty:=ty) (T:=T) (yT:=yT) hx hy O;have e:=eM a b;have e2:a.natAbs.div b.natAbs<=a.natAbs:=eI _ _;rw[eE _ O]at this;exact this
end
theorem QF7{x y:Int}(hF:Fits F w)(h0:0<=x)(h1:x<=9223372036854775807)(k0:0<=y)(k1:y<=9223372036854775807):Qe prog 99 [.int .i64 x,.int .i64 y] w F (.int .i64 (bw x.toNat y.toNat:Nat)):=by
 have:=QHK (a:=x.toNat) (b:=y.toNat) hF O O;rw[er h0,er k0]at this;exact this
def QEr(z:Int):(if 0-z>z then 0-z else z)=((z.natAbs:Nat):Int):=by split<;>omega
theorem QAj(n:Nat):jQ n 1=ak n:=by
 rcases aC n with h | h
 ·subst h;unfold jQ hd;rw[if_pos rfl,YZ];rfl
 exact kq h
theorem QEi{n:Int}{d:Nat}(h:0<d):n.tdiv ((bw n.natAbs d:Nat):Int)=(ao n d).num:=by
 rw[(V4 (x:=n) (y:=(d:Int)) O).1];have e:(bw n.natAbs d:Nat)=aZ n (d:Int):=by simp[aZ]
 rw[e];exact Int.tdiv_eq_ediv_of_dvd (fh (a:=n) (b:=(d:Int)))
theorem QEj{n:Int}{d:Nat}(h:0<d):(d:Int)/((bw n.natAbs d:Nat):Int)=((ao n d).den:Int):=by
 rw[(V4 (x:=n) (y:=(d:Int)) O).2];have e:(bw n.natAbs d:Nat)=aZ n (d:Int):=by simp[aZ]
 rw[e]
def QGD(n:Int){d:Int}(h:d≠0):ao (if d<0 then 0-n else n) (d.natAbs:Int)=ao n d:=by
 split
 ·rename_i g;rw[show((d.natAbs:Nat):Int) = -d by omega,Int.zero_sub];exact fb n d
 rw[show((d.natAbs:Nat):Int)=d by omega]
def QEk{n:Int}{d:Nat}(h:0<d)(hn:n.natAbs<=4000000000000000000)(hd:d<=4000000000000000000):(ao n d).num.natAbs<=4000000000000000000/\(ao n d).den<=4000000000000000000/\0<(ao n d).den:=by
 have e1:=QEi (n:=n) h;have e2:=QEj (n:=n) h;have k1:=eM n ((bw n.natAbs d:Nat):Int);have k2:n.natAbs.div ((bw n.natAbs d:Nat):Int).natAbs<=n.natAbs:=eI _ _;have k3:(d:Int)/((bw n.natAbs d:Nat):Int)<=(d:Int):=bI _ O;have k4:=(ao n d).den_pos;rw[e1]at k1;omega
theorem QAO(z:Int):(if z<0 then[45]else[])++ak z.natAbs=Zn z:=by
 split
 ·rename_i h;rw[Ki h];rfl
 rw[XO O];rfl
def QF0(h : -9223372036854775808<=z/\z<=9223372036854775807):sz z<=64:=by
 rw[XE];omega
theorem QEV{num den:Int}(hF:Fits F w)(hn : -9223372036854775808<=num/\num<=9223372036854775807)(hd : -9223372036854775808<=den/\den<=9223372036854775807)(h0:den≠0):Qe prog 25 [.int .i64 num,.int .i64 den] w F (tx (Jh (ao num den))):=by
 refine QT.intro (G:=λF=>True) func25 rfl wy rfl rfl hF w8<|QKO<|wQ rfl<|QG ?_
 refine YS [(0,_),(1,_)] [(20,.bool (decide (num < -4000000000000000000\/num>4000000000000000000\/den < -4000000000000000000\/den>4000000000000000000)))] wT ?_ ?_
 ·refine wA 4 I ?_;refine Qs (t:=9) rfl (λhb9=>?_) λhb9=>?_
  ·refine wB 12 I ?_;exact Jg ⟨rfl,rfl,(congrArg (λb=>some (ae b)) (by rw[af];simp_all;try omega)),trivial⟩ QJZ w9
  refine wB 6 I ?_;refine Qs (t:=13) rfl (λhb13=>?_) λhb13=>?_
  ·refine wB 8 I ?_;exact Jg ⟨rfl,rfl,(congrArg (λb=>some (ae b)) (by rw[af];simp_all;try omega)),trivial⟩ QJZ w9
  refine wB 6 I ?_;refine Qs (t:=17) rfl (λhb17=>?_) λhb17=>?_
  ·refine wB 4 I ?_;exact Jg ⟨rfl,rfl,(congrArg (λb=>some (ae b)) (by rw[af];simp_all;try omega)),trivial⟩ QJZ w9
  refine wB 6 I ?_;exact Jg ⟨rfl,rfl,(congrArg (λb=>some (ae b)) (by rw[af];simp_all;try omega)),trivial⟩ QJZ w9
 simp only[ah,ai];refine QO I (λhc=>?_) λhc=>?_
 ·refine wR I<|QI I (λ_ _ f k=>LA f O) λc22=>QJD I<|QI I (λ_ _ f k=>LA f O) λc24=>QI I (λ_ _ f k=>NB f (k.1.2) (k.2) (h0) (wk<|QF0 hn) (wk<|QF0 hd)) λ_=>wQ I<|QW ?_
  exact QKx I I (rfl) w8
 have hb:¬(num < -4000000000000000000\/num>4000000000000000000\/den < -4000000000000000000\/den>4000000000000000000):=QKd hc;refine QN<|QC ?_
 refine YS [] [(0,.int .i64 (if den<0 then 0-num else num)),(1,.int .i64 ((den.natAbs:Nat):Int))] trivial ?_ ?_
 ·refine wA 6 I ?_;refine QO I (λhc=>?_) λhc=>?_
  ·refine wA 2 I<|QA (X6 I I O)<|QJD I<|QA (X6 I I O)<|wB 3 I ?_
   exact Jg ⟨(congrArg (λz:Int=>some (ag .i64 z)) (if_pos (QKc hc)).symm),(congrArg (λz:Int=>some (ag .i64 z)) (wk<|QKc hc)),trivial⟩ QJZ w9
  refine QN ?_;exact Jg ⟨(congrArg (λz:Int=>some (ag .i64 z)) (if_neg (QKd hc)).symm),(congrArg (λz:Int=>some (ag .i64 z)) (wk<|QKd hc)),trivial⟩ QJZ w9
 simp only[ah,ai];have hq:=QGD num h0;have b1:(if den<0 then 0-num else num).natAbs<=4000000000000000000:=by split<;>omega
 generalize (if den<0 then 0-num else num)=n1 at *
 obtain⟨c1,c2,c3⟩:=QEk (n:=n1) (d:=den.natAbs) O b1 O;have hg:0<bw n1.natAbs den.natAbs:=Nat.gcd_pos_of_pos_right _ O;have lr1:=LD (ao n1 (den.natAbs:Int)).num;have lr2:=pY (ao n1 (den.natAbs:Int)).den;have lz1:=QF0 (z:=(ao n1 (den.natAbs:Int)).num) O;have lz2:=QF0 (z:=((ao n1 (den.natAbs:Int)).den:Int)) O;have e1:=QEi (n:=n1) (d:=den.natAbs) O;have e2:=QEj (n:=n1) (d:=den.natAbs) O;refine wA 4 I<|QA (X6 I I O)<|QA (QGo I I) ?_
 rw[QEr];refine QJD I<|QI I (λ_ _ f k=>QF7 f O O O O) λ_=>wQ I<|QG<|JK QJZ mixed wm ?_
 simp only[ey];refine QK (QD I)<|QK (QD I)<|QK (QHO I I O O O) ?_
 rw[e1];refine QK (QD I)<|QK (QD I)<|QK (Sd I I O O O) ?_
 rw[e2];refine QK (QF I)<|QK (QF I)<|Q5<|QKs 6 I ?_
 refine YS [(0,_),(1,_)] [(6,tx (if(ao n1 (den.natAbs:Int)).num<0 then[45]else[]))] wT ?_ ?_
 ·refine wA 6 I ?_;refine QO I (λhc=>?_) λhc=>?_
  ·refine wA 3 I ?_;exact Jg ⟨rfl,rfl,(congrArg (λl=>some (tx l)) (if_pos (QKc hc)).symm),trivial⟩ QJZ w9
  refine QN ?_;exact Jg ⟨rfl,rfl,(congrArg (λl=>some (tx l)) (if_neg (QKd hc)).symm),trivial⟩ QJZ w9
 simp only[ah,ai];refine wA 5 I<|QA (X6 I I O)<|QA (QGo I I) ?_
 rw[QEr];refine QI I (λ_ _ f k=>SO f (least:=1) O O O) (λ_=>?_);simp only[ey,QAj];refine QA (Ye I I (by have e:=congrArg eD (QAO (ao n1 (den.natAbs:Int)).num);rw[aB]at e;omega))<|QKq 6 I ?_
 rw[QAO];refine QKq 4 I ?_;refine QO I (λhc=>?_) λhc=>?_
 ·have hd1:¬((ao n1 (den.natAbs:Int)).den:Int)=1:=wk<|QKc hc
  refine wA 2 I<|QA (Ye I I (by simp only[aB,aO,bW];omega))<|QJD I<|QI I (λ_ _ f k=>SO f (least:=1) O O O) λ_=>?_
  simp only[ey,QAj];refine QA (Ye I I (by simp only[aB,aO,bW];omega))<|QKq 10 I ?_
  exact QKx I I (by rw[<-hq];exact congrArg (λl=>tx l) (by rw[<-dx hd1,CU])) w8
 have hd1:((ao n1 (den.natAbs:Int)).den:Int)=1:=wk<|QKd hc
 refine QKr 9 I ?_;exact QKx I I (by rw[<-hq];exact congrArg (λl=>tx l) (QCz hd1).symm) w8
def QC8(x:Rat):QBr (Jh x)=Jh (-x):=by
 unfold QBr AS;rw[SP];by_cases h0:Jh x=[48]
 ·rw[if_pos h0];have hx:x=0:=by
   have hv:=Kt x.num;by_cases hd:x.den=1
   ·rw[(qT hd).1]at h0;rw[h0]at hv;have:x.num=0:=by rw[<-hv];rfl
    exact Rat.num_eq_zero.1 this
   have:=(Ng hd).2.2.1;have h1:=(Ng hd).2.1;rw[h0]at h1;have h2:=(Ng hd).1;have h3:0<(Zn x.num).length:=by
    rcases aC (Zn x.num).length with g | g
    ·have e:=aq g;unfold Zn at e;rcases bM x.num 0 with q | q
     ·have:=Ki q;unfold Zn at this;rw[this]at e;cases e
     have:=XO q;unfold Zn at this;rw[this]at e;exact absurd e (V5 _)
    exact g
   rw[h0]at h2;simp at h1;omega
  subst hx;have e:(-0:Rat)=0:=wu;rw[e,if_neg wu,if_pos rfl]
 rw[if_neg h0];by_cases hn:x.num<0
 ·rw[if_pos (show(decide (x.num<0))=true by simpa using hn),if_pos wu,CK hn];rfl
 rw[if_neg (show ¬(decide (x.num<0))=true by simpa using hn),if_neg wu,if_neg wu];have h1:(-x).num<0:=by
  rw[eY];have:x.num≠0:=by
   intro e;have:=Rat.num_eq_zero.1 e;subst this;exact h0 FO
  omega
 have:=CK h1;rw[Rat.neg_neg]at this;exact this.symm
def cm(x:Rat):AS (Jh x)=D8 x.num:=by
 unfold AS;rw[SP];by_cases h0:x=0
 ·subst h0;rw[if_pos FO];rfl
 have hn:x.num≠0:=λe=>h0 (Rat.num_eq_zero.1 e);have h1:Jh x≠[48]:=by
  intro e;have h2:=QC8 x;unfold QBr AS at h2;rw[if_pos e,if_neg wu,if_pos rfl,e]at h2;by_cases hd:x.den=1
  ·have hv:=Kt x.num;rw[<-(qT hd).1,e]at hv;exact hn hv.symm
  have:=(Ng hd).2.2.1;have hv:=Kt x.num;rw[<-this,e]at hv;have h3:=(Ng hd).2.1;rw[e]at h3;have h4:ahead Zx [48]=1:=wu;rw[h4]at h3;exact absurd h3 wu
 rw[if_neg h1];unfold D8;by_cases g:x.num<0
 ·rw[if_pos (show(decide (x.num<0))=true by simpa using g),if_pos g]
 rw[if_neg (show ¬(decide (x.num<0))=true by simpa using g),if_neg g,if_neg hn]
theorem QGR(x y:Rat):D8 (x-y).num=Z7 x y:=by
 rw[I9];unfold Z7;have h1:(x-y<0)↔x<y:=by grind
 have h2:(x-y=0)↔x=y:=by grind
 simp only[h1,h2]
def QGI(n:Int):Jh (n:Rat)=Zn n:=by unfold Jh;rw[if_pos wz];simp
theorem FP{y:Rat}(hF:Fits F w)(hx:JQ x<=100000)(hy:JQ y<=100000):Qe prog 15 [tx (Jh x),tx (Jh y)] w F (tx (Jh (x+y))):=by
 refine QT.intro (G:=λF=>True) func15 rfl wy rfl rfl hF w8<|QKO<|wQ rfl<|wR rfl<|QI rfl (λ_ _ f k=>CH f (hx)) λc17=>JN _ (λ_ _ f k=>k.2) λp17=>QJD rfl<|QA (QX rfl rfl)<|QA (QX rfl rfl)<|QA (QX rfl rfl)<|QJE rfl<|QJE rfl<|wQ rfl<|wR rfl<|QI rfl (λ_ _ f k=>CH f (hy)) λc23=>JN _ (λ_ _ f k=>k.2) λp23=>?_
 refine QKq 14 I ?_;refine Qs (t:=28) rfl (λhb28=>?_) λhb28=>?_
 ·refine QKq 5 I ?_;refine QO I (λhc=>?_) λhc=>?_
  ·refine QG ?_;obtain⟨a1,a2,a3,a4⟩:=p17 hb28;obtain⟨b1,b2,b3,b4⟩:=p23 hc;have xd:=x.den_pos;have yd:=y.den_pos;have e1:(x.num*y.den).natAbs<1000000000*1000000000:=by rw[bc];exact aD a3 O
   have e2:(y.num*x.den).natAbs<1000000000*1000000000:=by rw[bc];exact aD b3 O
   have e3:(x.num*y.num).natAbs<1000000000*1000000000:=by rw[bc];exact aD a3 b3
   have e4:((x.den:Int)*y.den).natAbs<1000000000*1000000000:=by rw[bc];exact aD O O
   have e5:(x.den:Int)*y.den≠0:=by have h1:=Ko x;have h2:=Ko y;exact bA h1 h2
   rw[a1,a2,b1,b2];refine wA 3 I<|QA (N0 I I O)<|wB 2 I<|QA (N0 I I O)<|QA (Qv I I O)<|wB 2 I<|QA (N0 I I O)<|QI I (λ_ _ f k=>QEV f O O (e5)) λ_=>wQ I<|QW ?_
   exact QKx I I (by rw[Be]) w8
  refine QKr 3 I ?_;have s1:=Jw x;have s2:=Jp x;have s3:=Jw y;have s4:=Jp y;have m1:=Vx x.num y.den;have m2:=Vx y.num x.den;have m3:=Vx (x.den:Int) y.den;have m4:=Vx x.num y.num;have m5:=Lj (x.num*y.den) (y.num*x.den);have e5:(x.den:Int)*y.den≠0:=bA (Ko x) (Ko y);refine wA 2 I<|QI I (λ_ _ f k=>M9 f (hx)) λc44=>wB 3 I<|Qc Wi λb11=>Qc Wi λb12=>QR (vs:=[_,_]) I I I J9 I .u1 .h2 wT<|QR (vs:=[_,_]) I I I J9 I .here .h2 wT<|QKq 5 I<|QI I (λ_ _ f k=>M9 f (hy)) λc49=>wB 3 I<|Qc Wi λb13=>Qc Wi λb14=>QR (vs:=[_,_]) I I I J9 I .u1 .h2 wT<|QR (vs:=[_,_]) I I I J9 I .here .h2 wT<|QE<|QC ?_
  refine QG<|JK QJZ mixed wm<|QK (wH I J9 .u3)<|QK (wH I J9 .here)<|QM I (λ_ _ f k=>DU f (k.1.2.1) (k.2.2) O O) λc54=>QK (wH I J9 .u1)<|QK (wH I J9 .u2)<|QM I (λ_ _ f k=>DU f (k.1.2.1) (k.1.1.2.2) O O) λc57=>QM I (λ_ _ f k=>QCx f (k.1.2) (k.2) O O) λc58=>QK (wH I J9 .u2)<|QK (wH I J9 .here)<|QM I (λ_ _ f k=>DU f (k.1.1.1.1.2.2) (k.1.1.1.2.2) O O) λc61=>QM I (λ_ _ f k=>NB f (k.1.2) (k.2) (e5) O O) λ_=>QK (QF I)<|Q5<|QC<|QW ?_
  exact QKx I I (by rw[Be]) w8
 refine QKq 4 I<|YV I<|QKr 3 I ?_
 have s1:=Jw x;have s2:=Jp x;have s3:=Jw y;have s4:=Jp y;have m1:=Vx x.num y.den;have m2:=Vx y.num x.den;have m3:=Vx (x.den:Int) y.den;have m4:=Vx x.num y.num;have m5:=Lj (x.num*y.den) (y.num*x.den);have e5:(x.den:Int)*y.den≠0:=bA (Ko x) (Ko y);refine wA 2 I<|QI I (λ_ _ f k=>M9 f (hx)) λc44=>wB 3 I<|Qc Wi λb11=>Qc Wi λb12=>QR (vs:=[_,_]) I I I J9 I .u1 .h2 wT<|QR (vs:=[_,_]) I I I J9 I .here .h2 wT<|QKq 5 I<|QI I (λ_ _ f k=>M9 f (hy)) λc49=>wB 3 I<|Qc Wi λb13=>Qc Wi λb14=>QR (vs:=[_,_]) I I I J9 I .u1 .h2 wT<|QR (vs:=[_,_]) I I I J9 I .here .h2 wT<|QE<|QC ?_
 refine QG<|JK QJZ mixed wm<|QK (wH I J9 .u3)<|QK (wH I J9 .here)<|QM I (λ_ _ f k=>DU f (k.1.2.1) (k.2.2) O O) λc54=>QK (wH I J9 .u1)<|QK (wH I J9 .u2)<|QM I (λ_ _ f k=>DU f (k.1.2.1) (k.1.1.2.2) O O) λc57=>QM I (λ_ _ f k=>QCx f (k.1.2) (k.2) O O) λc58=>QK (wH I J9 .u2)<|QK (wH I J9 .here)<|QM I (λ_ _ f k=>DU f (k.1.1.1.1.2.2) (k.1.1.1.2.2) O O) λc61=>QM I (λ_ _ f k=>NB f (k.1.2) (k.2) (e5) O O) λ_=>QK (QF I)<|Q5<|QC<|QW ?_
 exact QKx I I (by rw[Be]) w8
theorem Lt{y:Rat}(hF:Fits F w)(hx:JQ x<=100000)(hy:JQ y<=100000):Qe prog 16 [tx (Jh x),tx (Jh y)] w F (tx (Jh (x*y))):=by
 refine QT.intro (G:=λF=>True) func16 rfl wy rfl rfl hF w8<|QKO<|wQ rfl<|wR rfl<|QI rfl (λ_ _ f k=>CH f (hx)) λc17=>JN _ (λ_ _ f k=>k.2) λp17=>QJD rfl<|QA (QX rfl rfl)<|QA (QX rfl rfl)<|QA (QX rfl rfl)<|QJE rfl<|QJE rfl<|wQ rfl<|wR rfl<|QI rfl (λ_ _ f k=>CH f (hy)) λc23=>JN _ (λ_ _ f k=>k.2) λp23=>?_
 refine QKq 14 I ?_;refine Qs (t:=28) rfl (λhb28=>?_) λhb28=>?_
 ·refine QKq 5 I ?_;refine QO I (λhc=>?_) λhc=>?_
  ·refine QG ?_;obtain⟨a1,a2,a3,a4⟩:=p17 hb28;obtain⟨b1,b2,b3,b4⟩:=p23 hc;have xd:=x.den_pos;have yd:=y.den_pos;have e1:(x.num*y.den).natAbs<1000000000*1000000000:=by rw[bc];exact aD a3 O
   have e2:(y.num*x.den).natAbs<1000000000*1000000000:=by rw[bc];exact aD b3 O
   have e3:(x.num*y.num).natAbs<1000000000*1000000000:=by rw[bc];exact aD a3 b3
   have e4:((x.den:Int)*y.den).natAbs<1000000000*1000000000:=by rw[bc];exact aD O O
   have e5:(x.den:Int)*y.den≠0:=by have h1:=Ko x;have h2:=Ko y;exact bA h1 h2
   rw[a1,a2,b1,b2];refine wA 3 I<|QA (N0 I I O)<|wB 2 I<|QA (N0 I I O)<|QI I (λ_ _ f k=>QEV f O O (e5)) λ_=>wQ I<|QW ?_
   exact QKx I I (by rw[BQ]) w8
  refine QKr 3 I ?_;have s1:=Jw x;have s2:=Jp x;have s3:=Jw y;have s4:=Jp y;have m1:=Vx x.num y.den;have m2:=Vx y.num x.den;have m3:=Vx (x.den:Int) y.den;have m4:=Vx x.num y.num;have m5:=Lj (x.num*y.den) (y.num*x.den);have e5:(x.den:Int)*y.den≠0:=bA (Ko x) (Ko y);refine wA 2 I<|QI I (λ_ _ f k=>M9 f (hx)) λc40=>wB 3 I<|Qc Wi λb11=>Qc Wi λb12=>QR (vs:=[_,_]) I I I J9 I .u1 .h2 wT<|QR (vs:=[_,_]) I I I J9 I .here .h2 wT<|QKq 5 I<|QI I (λ_ _ f k=>M9 f (hy)) λc45=>wB 3 I<|Qc Wi λb13=>Qc Wi λb14=>QR (vs:=[_,_]) I I I J9 I .u1 .h2 wT<|QR (vs:=[_,_]) I I I J9 I .here .h2 wT<|QE<|QC ?_
  refine QG<|JK QJZ mixed wm<|QK (wH I J9 .u3)<|QK (wH I J9 .u1)<|QM I (λ_ _ f k=>DU f (k.1.2.1) (k.2.1) O O) λc50=>QK (wH I J9 .u2)<|QK (wH I J9 .here)<|QM I (λ_ _ f k=>DU f (k.1.1.2.2) (k.1.2.2) O O) λc53=>QM I (λ_ _ f k=>NB f (k.1.2) (k.2) (e5) O O) λ_=>QK (QF I)<|Q5<|QC<|QW ?_
  exact QKx I I (by rw[BQ]) w8
 refine QKq 4 I<|YV I<|QKr 3 I ?_
 have s1:=Jw x;have s2:=Jp x;have s3:=Jw y;have s4:=Jp y;have m1:=Vx x.num y.den;have m2:=Vx y.num x.den;have m3:=Vx (x.den:Int) y.den;have m4:=Vx x.num y.num;have m5:=Lj (x.num*y.den) (y.num*x.den);have e5:(x.den:Int)*y.den≠0:=bA (Ko x) (Ko y);refine wA 2 I<|QI I (λ_ _ f k=>M9 f (hx)) λc40=>wB 3 I<|Qc Wi λb11=>Qc Wi λb12=>QR (vs:=[_,_]) I I I J9 I .u1 .h2 wT<|QR (vs:=[_,_]) I I I J9 I .here .h2 wT<|QKq 5 I<|QI I (λ_ _ f k=>M9 f (hy)) λc45=>wB 3 I<|Qc Wi λb13=>Qc Wi λb14=>QR (vs:=[_,_]) I I I J9 I .u1 .h2 wT<|QR (vs:=[_,_]) I I I J9 I .here .h2 wT<|QE<|QC ?_
 refine QG<|JK QJZ mixed wm<|QK (wH I J9 .u3)<|QK (wH I J9 .u1)<|QM I (λ_ _ f k=>DU f (k.1.2.1) (k.2.1) O O) λc50=>QK (wH I J9 .u2)<|QK (wH I J9 .here)<|QM I (λ_ _ f k=>DU f (k.1.1.2.2) (k.1.2.2) O O) λc53=>QM I (λ_ _ f k=>NB f (k.1.2) (k.2) (e5) O O) λ_=>QK (QF I)<|Q5<|QC<|QW ?_
 exact QKx I I (by rw[BQ]) w8
theorem QET{y:Rat}(hF:Fits F w)(hx:JQ x<=100000)(hy:JQ y<=100000):Qe prog 27 [tx (Jh x),tx (Jh y)] w F (tx (Jh (x-y))):=by
 have hly:=Eb y;refine QT.intro (G:=λF=>True) func27 rfl wy rfl rfl hF w8<|QKO<|wQ rfl<|wR rfl<|QJD rfl<|QI rfl (λ_ _ f k=>QHI f O) λ_=>?_
 rw[QC8];refine QI I (λ_ _ f k=>FP f (hx) (by rw[Vw];exact hy)) (λ_=>wQ I<|QW ?_);exact QKx I I (by rw[Rat.sub_eq_add_neg]) w8
theorem QBU{y:Rat}(hF:Fits F w)(hx:JQ x<=100000)(hy:JQ y<=100000):Qe prog 112 [tx (Jh x),tx (Jh y)] w F (.int .i64 (Z7 x y)):=by
 refine QT.intro (G:=λF=>True) func112 rfl wy rfl rfl hF w8<|QKO<|wQ rfl<|wR rfl<|QJD rfl<|QI rfl (λ_ _ f k=>QET f O O) λ_=>QI rfl (λ_ _ f k=>xG f ) λ_=>wQ rfl<|QW ?_
 exact QKx I I (by rw[cm,QGR]) w8
theorem QDW(hF:Fits F w)(hl:s.length<=1000000)(h1:ZJ (aa (s.take (ahead Zx s)) [45])=true)(h2:ahead Zx s<s.length->ZJ (aa (s.drop (ahead Zx s+1)) [45])=true):QT prog 64 [tx s] w F Ri.v2 (λc F=>ME F c.1 (Y7 (s.take (ahead Zx s)))/\(ahead Zx s<s.length->ME F c.2 (Y7 (s.drop (ahead Zx s+1))))):=by
 have hah:=E2 Zx s;refine QT.intro (G:=λF=>True) func64 rfl wy rfl rfl hF w8<|QKO<|Qc Wi λb2=>Qc Wi λb3=>QJC<|wR rfl<|wQ rfl<|wR rfl<|QI rfl (λ_ _ f k=>TD f O) λ_=>wQ rfl<|QG<|wR rfl<|QJD rfl ?_
 refine QA (X7 I Zo)<|QKq 3 I ?_
 refine QO I (λhc=>?_) λhc=>?_
 ·have hd:ahead Zx s=s.length:=by have:(ahead Zx s:Int)=(s.length:Int):=(by simpa using hc);omega
  refine wR I<|QI I (λ_ _ f k=>TE f (by rw[hd,aM]at h1;exact h1) O) λc14=>QI I (λ_ _ f k=>LA f wu) λc15=>QR (vs:=[_,_]) I I I J9 I .u1 .h2 wT<|QR (vs:=[_,_]) I I I J9 I .here .h2 wT<|QJC<|QW ?_
  exact JY ((c14,c15):Ri×Ri) rfl (.JZ (c:=[_,_]) I J9 .u1 (.JZ (c:=[_,_]) I J9 .here .nil)) (rfl) λF h9=>⟨by rw[hd,aM];exact h9.1.2,λg=>O⟩
 have hd:ahead Zx s<s.length:=by rcases aW (ahead Zx s) s.length with g | g;exact g;exact absurd (show ahead Zx s=s.length by omega) λe=>by rw[e]at hc;simp at hc
 refine QKr 3 I<|JK (.cons _ (.cons _ .slnil)) mixed wm<|QK (QD I)<|QK (QD I)<|QK (Mw (ahead Zx s) rfl rfl Zo I O)<|QM I (λ_ _ f k=>TE f (h1) (by rw[ay];omega)) λc19=>QK (QD I)<|QK (QD I)<|QK (Qv I I O)<|QK (GG ((ahead Zx s+1)) I I Zo wM O)<|QM I (λ_ _ f k=>TE f (h2 hd) (by rw[aN];omega)) λc24=>JU (vs:=[_,_]) I I I J9 I .u1 (.cons _ .slnil) (λ_ h=>h.1.1) .h2 wT<|JU (vs:=[_,_]) I I I J9 I .here (.cons _ .slnil) (λ_ h=>h.1.1) .h2 wT<|Q5<|QC<|QW ?_
 exact JY ((c19,c24):Ri×Ri) rfl (.JZ (c:=[_,_]) I J9 .u1 (.JZ (c:=[_,_]) I J9 .here .nil)) (rfl) λF h9=>⟨h9.1.2,λ_=>h9.2⟩
def gN(s:List UInt8):Bool:=!Xu ((aa s [45]).take (ahead Zx (aa s [45])))||(au s [45]&&(aa s [45]).take (ahead Zx (aa s [45]))==[48])
def AU(s:List UInt8):List UInt8:=(aa s [45]).drop (ahead Zx (aa s [45])+1)
def FD(s:List UInt8):Bool:=decide (ahead Zx (aa s [45])<(aa s [45]).length)
def vN(s:List UInt8):Bool:=FD s&&(!Xu (AU s)||(AU s==[48]||AU s==[49]))
def gM(s:List UInt8):Bool:=decide (600<ahead Zx (aa s [45]))||decide (600<(AU s).length)
def uU(s:List UInt8):Bool:=FD s&&!(bw (Jb ((aa s [45]).take (ahead Zx (aa s [45])))) (Jb (AU s))==1)
def Ie(s:List UInt8):Int:=if gN s=true then 1 else if vN s=true then 1 else if gM s=true then 4 else if uU s=true then 1 else 0
def xo{l:List UInt8}(h:(!Xu l)=false):0<l.length:=by
 rcases aC l.length with g | g
 ·rw[aq g]at h;simp[Xu]at h
 exact g
def QFv{p:UInt8->Bool}(h:∀c∈s,p c=true):s.takeWhile p=s:=by
 induction s with
 |nil=>rfl
 |cons c r ih=>rw[eN (h c wz),ih (λd hd=>h d (by simp[hd]))]
def QCu{l:List UInt8}(h:ZJ l=true):sz (Jb l:Int)<=4*l.length:=by
 rw[XE];have h1:=He h;have h2:10^l.length<=2^(4*l.length):=by rw[Nat.pow_mul];exact ek wu _
 simp;omega
theorem QDx(s:List UInt8):(Yl 47 s).1=s.take (ahead Zx s)/\(Yl 47 s).2.1=s.drop (ahead Zx s+1)/\(Yl 47 s).2.2=decide (ahead Zx s<s.length):=by
 have hf:(λc:UInt8=>!Zx c)=λc=>c != 47:=by funext c;simp[Zx,bne]
 have h1:=WM (λc:UInt8=>c != 47) s;have ha:ahead Zx s=(s.takeWhile λc=>c != 47).length:=by unfold ahead;rw[hf]
 rw[ha];by_cases hc:s.contains 47=true
 ·have e:Yl 47 s=(s.takeWhile (· != 47),(s.dropWhile (· != 47)).drop 1,true):=by unfold Yl;rw[if_pos hc]
  rw[e];obtain⟨r,hr⟩:=M0 (show(47:UInt8)∈s by simpa using hc);have hd:=h1.2;rw[hr]at hd;refine⟨h1.1.symm,?_,?_⟩
  ·show(s.dropWhile (· != 47)).drop 1=_;rw[hr,<-aH,hd]
  have:(s.takeWhile λc=>c != 47).length<s.length:=by
   have:=congrArg eD hd;rw[aN,aO]at this;omega
  simp[this]
 have e:Yl 47 s=(s,[],false):=by unfold Yl;rw[if_neg hc]
 rw[e];have h2:s.takeWhile (λc=>c != 47)=s:=by
  refine QFv λc hm=>?_;have:c≠47:=by rintro rfl;exact hc (by simpa using hm)
  simpa using this
 rw[h2];simp
theorem QEJ(s:List UInt8):aa (Yl 47 s).1 [45]=(Yl 47 (aa s [45])).1/\au (Yl 47 s).1 [45]=au s [45]/\(Yl 47 s).2=(Yl 47 (aa s [45])).2:=by
 cases s with
 |nil=>exact⟨rfl,rfl,rfl⟩
 |cons c r =>
  by_cases hc:c=45
  ·subst hc;have e:aa (45::r) [45]=r:=rfl;rw[e];unfold Yl;have h0:((45:UInt8)::r).contains 47=r.contains 47:=wz;rw[h0];split
   ·exact⟨rfl,rfl,rfl⟩
   exact⟨rfl,rfl,rfl⟩
  have hp:au (c::r) [45]=false:=by
   rw[EP wz];simpa using hc
  have e:aa (c::r) [45]=c::r:=by unfold aa;rw[if_neg (by rw[hp];decide)]
  rw[e];have e2:∀l:List UInt8,au l [45]=false->aa l [45]=l:=λl h=>by unfold aa;rw[if_neg (by rw[h];decide)]
  have h3:au (Yl 47 (c::r)).1 [45]=false:=by
   unfold Yl;split
   ·by_cases h47:c=47
    ·subst h47;rfl
    rw[eN (by simpa using h47),EP wz];simpa using hc
   exact hp
  exact⟨e2 _ h3,by rw[h3,hp],rfl⟩
def QGV(h1:gN s=false)(h2:vN s=false)(hk:ahead Zx (aa s [45])<(aa s [45]).length):ZJ ((aa s [45]).take (ahead Zx (aa s [45])))=true/\ZJ (AU s)=true:=by
 have hs:FD s=true:=by simp[FD];exact hk
 simp only[gN,ee,fa]at h1;simp only[vN,hs,Bool.true_and,ee,fa]at h2;exact⟨WT h1.1,WT h2.1⟩
theorem QDu(s:List UInt8):Ie s=Jd s:=by
 obtain⟨t1,t2,t3⟩:=QEJ s;obtain⟨c1,c2,c3⟩:=QDx (aa s [45]);have t4:(Yl 47 s).2.1=AU s:=by rw[t3,c2];rfl
 have t5:(Yl 47 s).2.2=FD s:=by rw[t3,c3];rfl
 have hlen:(aa s [45]).take (ahead Zx (aa s [45]))=(aa s [45]).take (ahead Zx (aa s [45])):=rfl;have hk:((aa s [45]).take (ahead Zx (aa s [45]))).length=ahead Zx (aa s [45]):=by
  rw[ay];have:=E2 Zx (aa s [45]);omega
 unfold Jd Ht Ie LX gN vN gM uU;rw[t1,t2,t4,t5,c1,hk];generalize (aa s [45]).take (ahead Zx (aa s [45]))=a;generalize AU s=d;generalize FD s=f;generalize au s [45]=n;have e:(!Xu a||(n&&a==[48])||(f&&(!Xu d||d==[48]||d==[49])))=((!Xu a||(n&&a==[48]))||(f&&(!Xu d||(d==[48]||d==[49])))):=by rw[Bool.or_assoc (!Xu d)]
 rw[e];cases (!Xu a||(n&&a==[48]))<;>cases (f&&(!Xu d||(d==[48]||d==[49])))<;>rfl
theorem gi(hF:Fits F w)(hl:s.length<=9223372036854775807):Qe prog 62 [tx s] w F (.int .i64 (Jd s)):=by
 rw[<-QDu];have hln:(aa s [45]).length<=s.length:=Ak _ _;have hah:=E2 Zx (aa s [45]);refine QT.intro (G:=λF=>True) func62 rfl wy rfl rfl hF w8<|QKO<|wQ rfl<|wR rfl<|QJE rfl<|QE<|QC ?_
 refine YS [(0,_)] [(3,tx (aa s [45]))] wS ?_ ?_
 ·refine YS [(0,_),(3,_)] [(16,.bool (au s [45]))] wT ?_ ?_
  ·refine wA 2 I<|QA (X7 I Zo)<|wB 2 I ?_
   refine Qs (t:=12) rfl (λhb12=>?_) λhb12=>?_
   ·refine wB 3 I<|QA (Hq (i:=0) rfl rfl Zo (wk<|QKc hb12))<|wB 4 I ?_
    exact Jg ⟨rfl,rfl,(congrArg (λb=>some (ae b)) (by have h0:0<s.length:=(wk<|QKc hb12);rw[EP h0];exact Ag I)),trivial⟩ QJZ w9
   refine wB 5 I ?_;exact Jg ⟨rfl,rfl,(congrArg (λb=>some (ae b)) (by have h0:s.length=0:=(wk<|QKd hb12);rw[aq h0];rfl)),trivial⟩ QJZ w9
  simp only[ah,ai];refine QO I (λhc=>?_) λhc=>?_
  ·refine wA 2 I<|QA (GG (1) rfl rfl Zo I (L4 hc))<|wB 2 I ?_
   exact Jg ⟨rfl,(congrArg (λl=>some (tx l)) (by unfold aa;rw[if_pos hc];rfl)),trivial⟩ QJZ w9
  refine QN ?_;exact Jg ⟨rfl,(congrArg (λl=>some (tx l)) (by unfold aa;rw[hc];rfl)),trivial⟩ QJZ w9
 simp only[ah,ai];refine wR I<|QI I (λ_ _ f k=>TD f O) λ_=>wQ I<|QG ?_
 refine YS [(3,_),(4,_)] [(36,.bool (gN s))] wT ?_ ?_
 ·refine wA 3 I<|QA (Mw ((ahead Zx (aa s [45]))) I I Zo I O)<|QI I (λ_ _ f k=>QCy f (by rw[ay];omega)) λ_=>QA (XJ I)<|QJD I ?_
  refine Qs (t:=26) rfl (λhb26=>?_) λhb26=>?_
  ·refine wB 4 I<|J0 I I<|J0 I I<|J0 I I<|J0 I I<|wB 3 I ?_
   exact Jg ⟨rfl,rfl,(congrArg (λb=>some (ae b)) (by simp[gN]at hb26 ⊢;simp[hb26])),trivial⟩ QJZ tA
  refine wB 3 I<|QA (Hq (i:=0) rfl rfl Ay (by have h1:=xo hb26;rw[ay]at h1;omega))<|wB 4 I ?_
  refine Qs (t:=30) rfl (λhb30=>?_) λhb30=>?_
  ·refine wB 5 I<|QA (Mw ((ahead Zx (aa s [45]))) I I Zo I O)<|QL I I<|QA (VD I I)<|wB 4 I ?_
   exact Jg ⟨rfl,rfl,(congrArg (λb=>some (ae b)) (by have h0:0<s.length:=(by have h1:=xo hb26;rw[ay]at h1;omega);have hp:au s [45]=true:=(by rw[EP h0,<-Ag (z:=45) rfl];exact hb30);simp[gN]at hb26 ⊢;simp[hb26,hp])),trivial⟩ QJZ tA
  refine wB 8 I ?_;exact Jg ⟨rfl,rfl,(congrArg (λb=>some (ae b)) (by have h0:0<s.length:=(by have h1:=xo hb26;rw[ay]at h1;omega);have hp:au s [45]=false:=(by rw[EP h0,<-Ag (z:=45) rfl];exact hb30);simp[gN]at hb26 ⊢;simp[hb26,hp])),trivial⟩ QJZ tA
 simp only[ah,ai];refine QO I (λhc=>?_) λhc=>?_
 ·have hb1:gN s=true:=hc;refine wA 6 I ?_;exact QKx I I (congrArg (ag .i64) (by simp[Ie,hb1])) w8
 have hb1:gN s=false:=hc;refine QKr 3 I ?_;refine YS [(3,_),(4,_)] [(62,.bool (vN s))] wT ?_ ?_
 ·refine wA 3 I<|QA (X7 I Zo)<|wB 2 I ?_
  refine Qs (t:=41) rfl (λhb41=>?_) λhb41=>?_
  ·refine wB 5 I<|QA (Qv I I (by first | omega | (simp only[decide_eq_true_eq]at *;omega)))<|QL I I<|QA (GG (((ahead Zx (aa s [45]))+1)) I I Zo wM (wk<|QKc hb41))<|QL I I<|QI I (λ_ _ f k=>QCy f (by rw[aN];omega)) λ_=>QL I I<|QA (XJ I)<|wB 2 I ?_
   refine Qs (t:=48) rfl (λhb48=>?_) λhb48=>?_
   ·refine wB 18 I ?_;exact Jg ⟨rfl,rfl,(congrArg (λb=>some (ae b)) (by have h1:FD s=true:=(by simp[FD];simpa using hb41);simp[vN,h1];simp at hb48;exact .inl hb48)),trivial⟩ QJZ tA
   refine wB 5 I<|QA (Qv I I (by first | omega | (simp only[decide_eq_true_eq]at *;omega)))<|QL I I<|QA (GG (((ahead Zx (aa s [45]))+1)) I I Zo wM (wk<|QKc hb41))<|QL I I<|QA (VD I I)<|wB 4 I ?_
   refine Qs (t:=55) rfl (λhb55=>?_) λhb55=>?_
   ·refine wB 9 I ?_;exact Jg ⟨rfl,rfl,(congrArg (λb=>some (ae b)) (by have h1:FD s=true:=(by simp[FD];simpa using hb41);simp[vN,h1];exact .inr (.inl (by simpa[AU]using hb55)))),trivial⟩ QJZ tA
   refine wB 5 I<|QA (Qv I I (by first | omega | (simp only[decide_eq_true_eq]at *;omega)))<|QL I I<|QA (GG (((ahead Zx (aa s [45]))+1)) I I Zo wM (wk<|QKc hb41))<|QL I I<|QA (VD I I)<|wB 4 I ?_
   exact Jg ⟨rfl,rfl,(congrArg (λb=>some (ae b)) (by have h1:FD s=true:=(by simp[FD];simpa using hb41);simp at hb48 hb55;simp[vN,h1,AU,hb48,hb55])),trivial⟩ QJZ tA
  refine wB 7 I<|J0 I I<|J0 I I<|J0 I I<|J0 I I<|J0 I I<|wB 2 I<|J0 I I<|J0 I I<|J0 I I<|J0 I I<|J0 I I<|wB 3 I ?_
  exact Jg ⟨rfl,rfl,(congrArg (λb=>some (ae b)) (by have h1:FD s=false:=(by simp[FD];simpa using hb41);simp[vN,h1])),trivial⟩ QJZ w9
 simp only[ah,ai];refine QO I (λhc=>?_) λhc=>?_
 ·have hb2:vN s=true:=hc;refine wA 6 I ?_;exact QKx I I (congrArg (ag .i64) (by simp[Ie,hb1,hb2])) w8
 have hb2:vN s=false:=hc;refine QKr 3 I ?_;refine YS [(3,_),(4,_)] [(72,.bool (gM s))] wT ?_ ?_
 ·refine wA 4 I ?_;refine Qs (t:=65) rfl (λhb65=>?_) λhb65=>?_
  ·refine wB 8 I ?_;exact Jg ⟨rfl,rfl,(congrArg (λb=>some (ae b)) (by have:=QKc hb65;simp[gM];left;omega)),trivial⟩ QJZ w9
  refine wB 3 I<|QA (X7 I Zo)<|wB 3 I<|QA (X6 I I O)<|QL I I<|QA (X6 I I O)<|wB 4 I ?_
  exact Jg ⟨rfl,rfl,(congrArg (λb=>some (ae b)) (by rw[af];have:=QKd hb65;simp[gM,AU];omega)),trivial⟩ QJZ w9
 simp only[ah,ai];refine QO I (λhc=>?_) λhc=>?_
 ·have hb3:gM s=true:=hc;refine wA 6 I ?_;exact QKx I I (congrArg (ag .i64) (by simp[Ie,hb1,hb2,hb3])) w8
 have hb3:gM s=false:=hc;have hk6:ahead Zx (aa s [45])<=600:=by simp[gM]at hb3;exact hb3.1
 refine QKr 7 I<|QA (X7 I Zo)<|QKq 3 I ?_
 refine QO I (λhc=>?_) λhc=>?_
 ·have hk:ahead Zx (aa s [45])<(aa s [45]).length:=wk<|QKc hc
  obtain⟨da,dd⟩:=QGV hb1 hb2 hk;refine wR I<|QI I (λ_ _ f k=>QDW f (s:=(aa s [45])) (by have h6:(AU s).length<=600:=(by simp[gM]at hb3;exact hb3.2);have h7:(AU s).length=(aa s [45]).length-(ahead Zx (aa s [45])+1):=(by unfold AU;rw[aN]);omega) (by rw[WL da];exact da) λ_=>by rw[show(List.drop (ahead Zx (aa s [45])+1) (aa s [45]))=AU s from rfl,WL dd];exact dd) λc79=>QJD rfl<|QA (QX rfl rfl)<|QA (QX rfl rfl)<|Qc Wi λb5=>Qc Wi λb6=>QR (vs:=[_,_]) rfl rfl rfl J9 rfl .u1 .h2 wT<|QR (vs:=[_,_]) rfl rfl rfl J9 rfl .here .h2 wT<|QJC<|QG<|XQ _ (λ_ _ f h=>aP h.2.1.p (aP (h.2.2 hk).p (aP h.2.1.1.2.1 (h.2.2 hk).1.2.1))) λpp=>?_
  obtain⟨pa,pd,na,nd⟩:=pp;rw[YN da]at pa;have pd2:=pd;rw[show Y7 ((aa s [45]).drop (ahead Zx (aa s [45])+1))=Jb (AU s)from YN dd]at pd2;have la:=pa.len;have ld:=pd2.len;have sa:=QCu da;have sd:=QCu dd;have h600:(AU s).length<=600:=by simp[gM]at hb3;exact hb3.2
  rw[ay]at sa;refine QB<|QA (QH I K2 Jz)<|QA (Qf I Jz .u1 (.skip .h1))<|QA (QH I K2 Jz)<|QA (Qf I Jz .here (.skip .h1)) ?_
  refine QI I (λ_ _ f k=>gh f (a:=c79.1.l) (b:=c79.2.l) (ra:=c79.1.r) (rb:=c79.2.r) k.2.1.1 ((k.2.2 hk).1) (pa.dg) (pd.dg) (pa.nz) (pd.nz) O O) (λc86=>?_);rcases c86 with ⟨v86,l86⟩;dsimp only;refine JN _ (λw F hF ⟨⟨⟨hT,_⟩,h79⟩,⟨h86,h86p⟩⟩=>aP h86.2 h86p) (λp86=>QJE rfl<|QE<|QC ?_);refine YS [] [(95,.bool (uU s))] trivial ?_ ?_
  ·have hgc:dv B9 l86=(bw (Jb ((aa s [45]).take (ahead Zx (aa s [45])))) (Jb (AU s)):Nat):=by
    rw[p86.2.2.2,QAb pa pd2];rfl
   have hone:=yh p86.2.1 p86.2.2.1;have hsl:FD s=true:=by simp[FD];exact hk
   refine wA 2 I<|QA (Qg I JB)<|wB 2 I ?_
   refine Qs (t:=90) rfl (λhb90=>?_) λhb90=>?_
   ·refine wB 6 I ?_;exact Jg ⟨(congrArg (λb=>some (ae b)) (by have h1:¬l86.length=1:=(by simp at hb90;omega);rw[af];simp[uU,hsl];intro g;exact h1 (hone.2 (by rw[hgc,g];rfl)).1)),trivial⟩ QJZ w9
   have hn1:v86.n=1:=by simp at hb90;omega
   refine wB 3 I<|QA (Q6 (n:=v86.n) (0) (λF h9=>(h9.2.1).1) rfl wM JB JO O)<|QL I I<|QA (JA (n:=v86.n) ((0)*1) (λF h9=>(h9.2.1).1) O rfl JO (J6 (o:=l86) O))<|wB 4 I ?_
   exact Jg ⟨(congrArg (λb=>some (ae b)) (by have h1:l86.length=1:=O;rw[af];simp[uU,hsl];exact not_congr ⟨λe=>by have h2:=hone.1 ⟨h1,e⟩;rw[hgc]at h2;omega,λe=>(hone.2 (by rw[hgc,e];rfl)).2⟩)),trivial⟩ QJZ w9
  simp only[ah,ai];refine QO I (λhc=>?_) λhc=>?_
  ·have hg4:uU s=true:=hc;refine wA 6 I ?_;exact QKx I I (congrArg (ag .i64) (by simp[Ie,hb1,hb2,hb3,hg4])) w8
  have hg4:uU s=false:=hc;refine QKr 8 I ?_;exact QKx I I (congrArg (ag .i64) (by simp[Ie,hb1,hb2,hb3,hg4])) w8
 have hg4:uU s=false:=by have:=QKd hc;simp[uU,FD];intro g;omega
 refine QKr 8 I ?_;exact QKx I I (congrArg (ag .i64) (by simp[Ie,hb1,hb2,hb3,hg4])) w8
theorem CI(hF:Fits F w)(hl:s.length<=1000000):Qe prog 62 [tx s] w F (.int .i64 (Jd s)) :=
 gi hF (bm hl wu)
theorem QF9{a b:List UInt8}(hF:Fits F w)(ha:Jd a=0)(hb:Jd b=0):Qe prog 112 [tx a,tx b] w F (.int .i64 (Z7 (Qh a) (Qh b))):=by
 have h1:=YM ha;have h2:=YM hb;have:=QBU (x:=Qh a) (y:=Qh b) hF O O;rw[<-(XI ha).1,<-(XI hb).1]at this;exact this
theorem QAA{q:Option Addr}{c:Nat}{l:List (List UInt8)}(hF:Fits F w)(hR:Qw F q n 1 (l.map tx))(hl:l.length=n/\∀s∈l,s.length<=1000000)(hn:n<=1000000):Qe prog 14 [.slice q n c] w F (.int .i64 (Qp (l.map Jd))):=by
 have hln:=hl.1;refine QT.intro (G:=λF=>Qw F q n 1 (l.map tx)) func14 rfl wy rfl rfl hF (λF' hF'=>hR.le hF')<|QKO<|wQ rfl<|QG<|QKO<|wQ rfl<|QV<|XM (ι:=ZK l Jd) [(0,_)] (λi=>[(3,.int .i64 ((i.i:Nat):Int))]) (λi=>l.length-i.i) (ZK.start _ _) wS wS λi=>?_
 simp only[ah,ai];refine wA 5 I<|QA (Qg I Z6)<|QKq 3 I ?_
 refine QO I (λhc=>?_) λhc=>?_
 ·have hi:i.i<l.length:=wk<|QKc hc
  refine QKr 8 I<|QA (Q6 (n:=n) i.i w9 rfl rfl Z6 JR O)<|QA (JA (n:=n) ((i.i)*1) w9 O rfl JR (Xa (f:=tx) (l:=l) O))<|QI I (λ_ _ f k=>CI f (hl.2 _ (Q3 hi))) λ_=>QKq 9 I ?_
  refine QO I (λhc=>?_) λhc=>?_
  ·refine wA 7 I ?_
   repeat first|refine Q4 ?_|refine Qy ?_
   exact QKx I I (congrArg (ag .i64) (i.hit hi (by simpa using hc))) w8
  refine QN<|Qk<|QKs 3 I<|QA (Qv I I O)<|wB 2 I ?_
  exact Ql (i.next hi (by simpa using hc)) (by show l.length-(i.i+1)<l.length-i.i;omega) wT QJZ tA
 have hi:l.length<=i.i:=wk<|QKd hc
 refine Q2 ?_
 repeat first|refine QY ?_|refine QP wy ?_
 refine QZ<|QKs 7 I ?_
 exact QKx I I (congrArg (ag .i64) (i.stop hi)) w8
theorem dp{lo hi:List UInt8}(hF:Fits F w)(hl:lo.length<=1000000/\hi.length<=1000000):Qe prog 126 [.agg #[tx lo,tx hi]] w F (.int .i64 (Xc lo hi)):=by
 refine QT.intro (G:=λF=>True) func126 rfl wy rfl rfl hF w8<|QKO<|Qu rfl (vs:=[_,_]) rfl λb1=>wQ rfl<|QKO<|QA (QH rfl Sn JR)<|QA (Qf rfl JR .here .h1)<|QI rfl (λ_ _ f k=>CI f (hl.1)) λ_=>QJE rfl<|QE<|QC ?_
 refine YS [(1,_)] [(3,.int .i64 (Qp [Jd lo,Jd hi]))] wS ?_ ?_
 ·refine wA 6 I ?_;refine QO I (λhc=>?_) λhc=>?_
  ·refine QB<|QA (QH I Sm JR)<|QA (Qf I JR .here (.skip .h1))<|QI I (λ_ _ f k=>CI f (hl.2)) λ_=>wB 2 I ?_
   exact Jg ⟨rfl,(congrArg (λz:Int=>some (ag .i64 z)) (by simp[Qp];simp at hc;simp[hc])),trivial⟩ QJZ tA
  refine QN ?_;exact Jg ⟨rfl,(congrArg (λz:Int=>some (ag .i64 z)) (by simp[Qp];simp at hc;simp[hc])),trivial⟩ QJZ w9
 simp only[ah,ai];refine wA 6 I ?_;refine Qs (t:=14) rfl (λhb14=>?_) λhb14=>?_
 ·refine QL I I ?_;obtain⟨k1,k2⟩:=Mg (by simpa using hb14);refine QA (QH I Sn JR)<|QL I I<|QA (Qf I JR .here .h1)<|QL I I<|QA (QH I Sm JR)<|QL I I<|QA (Qf I JR .here (.skip .h1))<|QL I I<|QI I (λ_ _ f k=>QF9 f (k1) (k2)) λ_=>QKq 5 I ?_
  refine QO I (λhc=>?_) λhc=>?_
  ·refine wA 6 I ?_;exact QKx I I (congrArg (ag .i64) (by unfold Xc;rw[if_pos (by simpa using hb14),if_pos (QKc hc)])) w8
  refine QKr 9 I ?_;exact QKx I I (congrArg (ag .i64) (by unfold Xc;rw[if_pos (by simpa using hb14),if_neg (QKd hc)];symm;simpa using hb14)) w8
 refine QKq 9 I<|YV I<|QKr 9 I ?_
 exact QKx I I (congrArg (ag .i64) (by unfold Xc;rw[if_neg (by simpa using hb14)])) w8
theorem jw{q:Option Addr}{c:Nat}{l:List (List UInt8×List UInt8)}(hF:Fits F w)(hR:Qw F q n 2 (l.flatMap UH))(hl:l.length=n/\∀s∈l,s.1.length<=1000000/\s.2.length<=1000000)(hn:n<=1000000):Qe prog 38 [.slice q n c] w F (.int .i64 (Qp (l.map λp=>Xc p.1 p.2))):=by
 have hln:=hl.1;refine QT.intro (G:=λF=>Qw F q n 2 (l.flatMap UH)) func38 rfl wy rfl rfl hF (λF' hF'=>hR.le hF')<|QKO<|wQ rfl<|QG<|QKO<|wQ rfl<|QV<|XM (ι:=ZK l λp=>Xc p.1 p.2) [(0,_)] (λi=>[(3,.int .i64 ((i.i:Nat):Int))]) (λi=>l.length-i.i) (ZK.start _ _) wS wS λi=>?_
 simp only[ah,ai];refine wA 5 I<|QA (Qg I XW)<|QKq 3 I ?_
 refine QO I (λhc=>?_) λhc=>?_
 ·have hi:i.i<l.length:=wk<|QKc hc
  refine QKr 8 I<|QA (Q6 (n:=n) i.i w9 rfl rfl XW J1 O)<|QA (JX (n:=n) (vs:=[tx (el l i.i).1,tx (el l i.i).2]) ((i.i)*2) w9 O rfl J1 I λj v hv=>Jc (f:=UH) (l:=l) Gn O hv)<|QI I (λ_ _ f k=>dp f (hl.2 _ (Q3 hi))) λ_=>QKq 9 I ?_
  refine QO I (λhc=>?_) λhc=>?_
  ·refine wA 7 I ?_
   repeat first|refine Q4 ?_|refine Qy ?_
   exact QKx I I (congrArg (ag .i64) (i.hit hi (by simpa using hc))) w8
  refine QN<|Qk<|QKs 3 I<|QA (Qv I I O)<|wB 2 I ?_
  exact Ql (i.next hi (by simpa using hc)) (by show l.length-(i.i+1)<l.length-i.i;omega) wT QJZ tA
 have hi:l.length<=i.i:=wk<|QKd hc
 refine Q2 ?_
 repeat first|refine QY ?_|refine QP wy ?_
 refine QZ<|QKs 7 I ?_
 exact QKx I I (congrArg (ag .i64) (i.stop hi)) w8
def Uy(a:List UInt8)(d:Int):Bool:=decide ((a.length:Int)<=2*d+2)&&(Jd a==0&&(decide (((QDy (numOf a)).length:Int)<=d)&&decide (((QAi a).length:Int)<=d)))
def QDc(a:List UInt8):(numOf a).length<=a.length:=by unfold numOf;rw[ay];omega
def QGP(d:Int)(p:List UInt8×List UInt8):Bool:=Uy p.1 d&&(Uy p.2 d&&!decide (Z7 (Qh p.1) (Qh p.2)>0))
def Cm{a:List UInt8}{d:Int}(h:Uy a d=true):Jd a=0:=by
 simp only[Uy,ff,beq_iff_eq]at h;exact h.2.1
@[reducible] def spT (a:Rat×Rat):Value:=.agg #[tx (Jh a.1),tx (Jh a.2)]
def O3(k:Nat)(a:Rat×Rat):Prop:=JQ a.1<=k/\JQ a.2<=k
theorem QId{b:Rat×Rat}(hF:Fits F w)(hx:JQ x<=100000)(hb:O3 100000 b):Qe prog 30 [tx (Jh x),spT b] w F (.bool (decide (Z7 b.1 x<=0)&&decide (Z7 x b.2<=0))):=by
 refine QT.intro (G:=λF=>True) func30 rfl wy rfl rfl hF w8<|QKO<|Qu rfl (vs:=[_,_]) rfl λb3=>wQ rfl<|QKO<|QA (QH rfl Sn JR)<|QA (Qf rfl JR .here .h1)<|QJD rfl<|QI rfl (λ_ _ f k=>QBU f (hb.1) (hx)) λ_=>QA (QU rfl rfl rfl)<|QJD rfl ?_
 refine Qs (t:=10) rfl (λhb10=>?_) λhb10=>?_
 ·refine wB 3 I<|QA (QH I Sm JR)<|QL I I<|QA (Qf I JR .here (.skip .h1))<|QL I I<|QI I (λ_ _ f k=>QBU f (hx) (hb.2)) λ_=>QKq 7 I ?_
  exact QKx I I (congrArg ae (by rw[hb10];simp)) w8
 refine QKq 10 I ?_;exact QKx I I (congrArg ae (by rw[hb10];simp)) w8
def QDV(p:Rat×Rat):List Value:=[tx (Jh p.1),tx (Jh p.2)]
def zr(p:Rat×Rat):(QDV p).length=2:=rfl
section
variable[Dr][df:Df]{P:Program}{N:Nat}{m:Sl}{w0:World}{F0:Gs}{bs:List (Nat×Obj)}{G:Gs->Prop}
theorem Qw.QIi{q:Option Addr}{sz:Nat}(h:Qw F q n sz cs)(e:q=none):n=0:=by
 rcases aC n with g | g
 ·exact g
 obtain⟨_,_,_,_,e2,_⟩:=h.2 g;rw[e]at e2;cases e2
end
section
open Go.RowKit Go.ChangeShapes Go.WideShapes Ig
section
variable{H:Type}{enc:TypeId×Value->H}{w:World}
theorem QAM{t e:TypeId}{b:Nat}{v:Value}(ht:prog.underlying t=some (.array n e))(h:fp prog w .any b t v):∃cs,v = .agg cs/\cs.size=prog.cellsOf t:=by
 simp only[fp,ht]at h;obtain⟨cs,h1,h2,_⟩:=h;exact⟨cs,h1,h2⟩
end
end
section
open Go.RowKit Go.ChangeShapes Go.WideShapes Ig
section
variable{H:Type}{enc:TypeId×Value->H}{w:World}
theorem vO{t e:TypeId}{fuel:Nat}{x:DataW H×List MemPlace}(ht:prog.underlying t=some (.array n e))(h:fN enc prog w 0 (λ_=>true) true fuel t cs=some x)(hi:i<n):∃m y,fN enc prog w 0 (λ_=>true) true m e ((cs.drop (i*prog.cellsOf e)).take (prog.cellsOf e))=some y:=by
 obtain⟨xs,m,_,_,_,hl,hx⟩:=DataW.trod_array ht h;have h1:=hx i hi;rw[eQ O]at h1;exact⟨m,_,h1⟩
end
end
def dM(c:Rat)(xs:List Rat)(ks:List Int)(i:Nat):Rat:=(bz i).foldl (λa j=>a*(el xs j)^(Qm ks j).toNat) c
def QDS(c:Rat)(xs:List Rat)(ks:List Int)(i:Nat):dM c xs ks (i+1)=dM c xs ks i*(el xs i)^(Qm ks i).toNat:=by
 unfold dM;rw[bh,aF];rfl
def kX(xs:List Rat)(l:List Tm):Rat:=l.foldl (λa t=>a+dM t.1 xs t.2 t.2.length) 0
structure QIO(a b:List Int) where
 i:Nat
 le:i<=a.length
 h:Yb a b=Yb (a.drop i) (b.drop i)
theorem QIO.step(s:QIO a b)(h1:s.i<a.length)(h2:s.i<b.length):Yb a b=(decide (Qm b s.i<Qm a s.i)||(decide (Qm a s.i=Qm b s.i)&&Yb (a.drop (s.i+1)) (b.drop (s.i+1)))):=by
 rw[s.h,Xo h1,Xo h2];rfl
theorem LB{r:Sr}(hF:Fits F w)(hR:XD F r l)(hp:PW l):Qe prog 127 [r.v] w F (.int .i64 l.sum):=by
 obtain⟨q,n,c⟩:=r;have hln:=hR.2.1;dsimp only[Sr.v]at hln ⊢;have hl1:=hp.2;refine QT.intro (G:=λF=>XD F ⟨q,n,c⟩ l) func127 rfl wy rfl rfl hF (λF' hF'=>hR.le hF')<|QKO<|wQ rfl<|QKO<|wQ rfl<|QG<|QKO<|wQ rfl<|QV<|XM (ι:={i:Nat // i<=l.length}) [(0,_)] (λi=>[(3,.int .i64 ((l.take i.1).sum)),(4,.int .i64 ((i.1:Nat):Int))]) (λi=>l.length-i.1) (⟨0,aK _⟩) wS wT λi=>?_
 simp only[ah,ai];have hi:=i.2;have hs:=hp.sum i.1 hi;refine wA 5 I<|QA (Qg I JB)<|QKq 3 I ?_
 refine QO I (λhc=>?_) λhc=>?_
 ·have hlt:i.1<l.length:=wk<|QKc hc
  have he:=hp.el hlt;refine QKr 8 I<|QA (Q6 (n:=n) (i.1) (λF hR=>(hR).1) rfl rfl JB JO O)<|QA (JA (n:=n) ((i.1)*1) (λF hR=>(hR).1) O rfl JO (J6 (o:=l) O))<|QA (Qv I I O)<|wB 2 I<|Qk<|QKs 3 I<|QA (Qv I I O)<|wB 2 I ?_
  exact Ql (⟨i.1+1,hlt⟩) (by show l.length-(i.1+1)<l.length-i.1;omega) ⟨rfl,(congrArg (λz:Int=>some (ag .i64 z)) (S8 hlt).symm),rfl,trivial⟩ QJZ w9
 have hge:i.1=l.length:=wk<|QKd hc
 refine Q2 ?_
 repeat first|refine QY ?_|refine QP wy ?_
 refine QZ<|QKs 8 I ?_
 exact QKx I I (congrArg (ag .i64) (by rw[ar O])) w8
theorem QDZ{q q2:Option Addr}{c n2 c2:Nat}(hF:Fits F w)(hA:XD F ⟨q,n,c⟩ a)(hB:XD F ⟨q2,n2,c2⟩ b)(pa:PW a)(pb:PW b)(hl:a.length=b.length):Qe prog 200 [.slice q n c,.slice q2 n2 c2] w F (.bool (before a b)):=by
 have na:=hA.2.1;have nb:=hB.2.1;dsimp only at na nb;have la:=pa.2;refine QT.intro (G:=λF=>XD F ⟨q,n,c⟩ a/\XD F ⟨q2,n2,c2⟩ b) func200 rfl wy rfl rfl hF (λF' hF'=>⟨hA.le hF',hB.le hF'⟩)<|QKO<|wQ rfl<|QG<|wR rfl<|QI rfl (λ_ _ f k=>LB f (r:=⟨q,n,c⟩) k.1 (pa)) λ_=>QJD rfl<|QI rfl (λ_ _ f k=>LB f (r:=⟨q2,n2,c2⟩) k.1.2 (pb)) λ_=>QA (QU rfl rfl rfl)<|QE<|QC ?_
 refine QO I (λhc=>?_) λhc=>?_
 ·have hne:=bne_iff_ne.1 hc;refine wR I<|QI I (λ_ _ f k=>LB f (r:=⟨q,n,c⟩) k.1.1.1 (pa)) λ_=>QJD I<|QI I (λ_ _ f k=>LB f (r:=⟨q2,n2,c2⟩) k.1.1.1.2 (pb)) λ_=>QKq 5 I ?_
  exact QKx I I (congrArg ae (by unfold before;rw[decide_eq_false hne,Bool.false_and,Bool.or_false])) w8
 have hne:=bne_eq_false_iff_eq.1 hc;refine QKr 9 I<|XM (ι:=QIO a b) [(0,_),(1,_)] (λi=>[(5,.int .i64 ((i.i:Nat):Int))]) (λi=>a.length-i.i) (⟨0,aK _,rfl⟩) wT wS λi=>?_
 simp only[ah,ai];have hi:=i.le;refine wA 5 I<|QA (Qg I JB)<|QKq 3 I ?_
 refine QO I (λhc=>?_) λhc=>?_
 ·have hlt:i.i<a.length:=wk<|QKc hc
  refine QKr 5 I<|JK QJZ mixed wm<|QK (QD I)<|QK (QD I)<|QK (Q6 (n:=n) i.i (λF h9=>(h9.1.1.1).1) rfl rfl JB JO O)<|QK (JA (n:=n) ((i.i)*1) (λF h9=>(h9.1.1.1).1) O rfl JO (J6 (o:=a) O))<|QK (QD I)<|QK (QD I)<|QK (Q6 (n:=n2) i.i (λF h9=>(h9.1.1.2).1) rfl rfl JB JO O)<|QK (JA (n:=n2) ((i.i)*1) (λF h9=>(h9.1.1.2).1) O rfl JO (J6 (o:=b) O))<|QK (QU I I I)<|Q5<|QC ?_
  refine QO I (λhc=>?_) λhc=>?_
  ·have he:=bne_iff_ne.1 hc;refine QG<|JK QJZ mixed wm<|QK (QD I)<|QK (QD I)<|QK (Q6 (n:=n) i.i (λF h9=>(h9.1.1.1).1) rfl rfl JB JO O)<|QK (JA (n:=n) ((i.i)*1) (λF h9=>(h9.1.1.1).1) O rfl JO (J6 (o:=a) O))<|QK (QD I)<|QK (QD I)<|QK (Q6 (n:=n2) i.i (λF h9=>(h9.1.1.2).1) rfl rfl JB JO O)<|QK (JA (n:=n2) ((i.i)*1) (λF h9=>(h9.1.1.2).1) O rfl JO (J6 (o:=b) O))<|QK (QU I I I)<|QK (QF I)<|Q5<|QC<|QW ?_
   repeat first|refine Q4 ?_|refine Qy ?_
   exact QKx I I (congrArg ae (by unfold before;rw[i.step hlt O,decide_eq_false he,hne];simp)) w8
  have he:=bne_eq_false_iff_eq.1 hc;refine QN<|Qk<|QKs 3 I<|QA (Qv I I O)<|wB 2 I ?_
  exact Ql (⟨i.i+1,hlt,by rw[i.step hlt O,he];simp⟩) (by show a.length-(i.i+1)<a.length-i.i;omega) wU QJZ w9
 have hge:i.i=a.length:=wk<|QKd hc
 refine Q2 ?_
 repeat first|refine QY ?_|refine QP wy ?_
 refine QZ<|QKs 7 I ?_
 exact QKx I I (congrArg ae (by unfold before;rw[i.h,hge,bF (av _),hne];simp[Yb])) w8
theorem QBM{f:List UInt8}{v:Int}(h1:(l.length:Int)=v+1)(h2:∀k∈l,0<=k):Y6 f l v=if decide (GD l>12)=true then 4 else Jd f:=by
 unfold Y6;rw[if_neg (λh=>h h1),if_neg (uy h2)];simp only[Qp];by_cases g:decide (GD l>12)=true
 ·rw[if_pos g,if_pos g,if_neg wu]
 rw[if_neg g,if_neg g,if_pos rfl];by_cases k:Jd f=0
 ·rw[k];rfl
 rw[if_neg k]
theorem gF{f:List UInt8}{q:Option Addr}{cap:Nat}{v:Int}(hF:Fits F w)(hGl:JC F)(hR:XD F ⟨q,n,cap⟩ l)(hf:f.length<=9223372036854775807)(hl:l.length<=9223372036854775807)(hv : -1000000<=v/\v<=1000000):Qe prog 198 [.agg #[tx f,.slice q n cap],.int .i64 v] w F (.int .i64 (Y6 f l v)):=by
 have hln:l.length=n:=hR.2.1;refine QT.intro (G:=λF=>JC F/\XD F ⟨q,n,cap⟩ l) func198 rfl wy rfl rfl hF (λF' hF'=>⟨hGl.le hF',hR.le hF'⟩)<|QKO<|Qu rfl (vs:=[_,_]) rfl λb2=>wQ rfl<|QG<|QKO<|QA (QH rfl BW Jz)<|QA (Qf rfl Jz .here (.skip .h1))<|QA (Qg rfl JB)<|QJD rfl<|QA (Qv rfl rfl O)<|QA (QU rfl rfl rfl)<|QE<|QC ?_
 refine QO I (λhc=>?_) λhc=>?_
 ·have hne:=bne_iff_ne.1 hc;refine wA 6 I ?_;exact QKx I I (congrArg (ag .i64) (by unfold Y6;rw[if_pos (by rw[hln];exact hne)])) w8
 have heq:=bne_eq_false_iff_eq.1 hc;refine QKr 14 I<|XM (ι:=QGg l) [(2,_)] (λi=>[(5,.int .i64 (GD (l.take i.i))),(6,.int .i64 ((i.i:Nat):Int))]) (λi=>l.length-i.i) (⟨0,aK _,wz⟩) wS wT λi=>?_
 simp only[ah,ai];have hi:=i.le;have hb:=Ml _ i.nn;rw[ay]at hb;refine wA 4 I<|QA (QH I BW Jz)<|QA (Qf I Jz .here (.skip .h1))<|QA (Qg I JB)<|QKq 3 I ?_
 refine QO I (λhc=>?_) λhc=>?_
 ·have hlt:i.i<l.length:=wk<|QKc hc
  refine QKr 7 I<|QA (QH I BW Jz)<|QA (Qf I Jz .here (.skip .h1))<|QJD I<|QA (Q6 (n:=n) i.i (λF h9=>(h9.2).1) rfl rfl JB JO O)<|QA (JA (n:=n) ((i.i)*1) (λF h9=>(h9.2).1) O rfl JO (J6 (o:=l) O))<|QKq 3 I ?_
  refine QO I (λhc=>?_) λhc=>?_
  ·have hng:=QKc hc;refine wA 6 I ?_
   repeat first|refine Q4 ?_|refine Qy ?_
   exact QKx I I (congrArg (ag .i64) (by unfold Y6;rw[if_neg (by rw[hln];exact λh=>h heq),if_pos (xS hlt hng)])) w8
  have hng:=QKd hc;refine QKr 4 I<|QA (QH I BW Jz)<|QA (Qf I Jz .here (.skip .h1))<|QJD I<|QA (Q6 (n:=n) i.i (λF h9=>(h9.2).1) rfl rfl JB JO O)<|QA (JA (n:=n) ((i.i)*1) (λF h9=>(h9.2).1) O rfl JO (J6 (o:=l) O))<|QA (gk I I)<|QA (Qv I I O)<|wB 2 I<|Qk<|QKs 3 I<|QA (Qv I I O)<|wB 2 I ?_
  exact Ql (⟨i.i+1,hlt,by intro k hk;rw[XV hlt]at hk;rcases List.mem_append.1 hk with hk | hk;exact i.nn k hk;rw[List.mem_singleton.1 hk,<-Yy hlt];omega⟩) (by show l.length-(i.i+1)<l.length-i.i;omega) ⟨rfl,(congrArg (λz:Int=>some (ag .i64 z)) (LG hlt).symm),rfl,trivial⟩ QJZ w9
 have hge:i.i=l.length:=wk<|QKd hc
 refine Q2 ?_
 repeat first|refine QY ?_|refine QP wy ?_
 refine QZ<|QKs 4 I ?_
 rw[hge,aM];have hnn:=i.nn;rw[hge,aM]at hnn;have hte:=QBM (f:=f) (v:=v) (by rw[hln];exact heq) hnn;refine QKq 4 I ?_;refine QO I (λhc=>?_) λhc=>?_
 ·have hbg:=hc;refine wA 6 I ?_;exact QKx I I (congrArg (ag .i64) (by rw[hte,if_pos hbg])) w8
 have hbg:=hc;refine QKr 4 I<|QA (QH I U2 JR)<|QA (Qf I JR .here .h1)<|QI I (λ_ _ f k=>gi f (hf)) λ_=>wQ I<|QW ?_
 exact QKx I I (congrArg (ag .i64) (by rw[hte,hbg];rfl)) w8
section
variable{ps:List MG}{v:Int}{i:Nat}
def QJb(h:i<ps.length)(he:Y6 (el ps i).f (el ps i).k v≠0):GC (YQ ps) v i=Y6 (el ps i).f (el ps i).k v:=by
 have e:Qp [Y6 (el ps i).f (el ps i).k v,if((el ps i).f==[48])=true then 6 else 0]=Y6 (el ps i).f (el ps i).k v:=by
  unfold Qp;rw[if_neg he]
 rw[step_eq h e,if_neg (λg=>he g.1)]
def QJa(h:i<ps.length)(he:Y6 (el ps i).f (el ps i).k v=0)(hz:((el ps i).f==[48])=true):GC (YQ ps) v i=6:=by
 have e:Qp [Y6 (el ps i).f (el ps i).k v,if((el ps i).f==[48])=true then 6 else 0]=6:=by
  rw[he,if_pos hz];rfl
 rw[step_eq h e,if_neg (λg=>wk g.1)]
def QEQ(h:i<ps.length)(he:Y6 (el ps i).f (el ps i).k v=0)(hz:((el ps i).f==[48])=false):GC (YQ ps) v i=if 0<i/\before (el ps (i-1)).k (el ps i).k=false then 11 else 0:=by
 have e:Qp [Y6 (el ps i).f (el ps i).k v,if((el ps i).f==[48])=true then 6 else 0]=0:=by
  rw[he,hz];rfl
 rw[step_eq h e];have hb:(0<=Gg (el ps (i-1)).k (el ps i).k)↔before (el ps (i-1)).k (el ps i).k=false:=by
  rw[B4,decide_eq_false_iff_not];omega
 by_cases g:0<i/\before (el ps (i-1)).k (el ps i).k=false
 ·rw[if_pos g,if_pos ⟨rfl,g.1,hb.2 g.2⟩]
 rw[if_neg g,if_neg (λh=>g ⟨h.2.1,hb.1 h.2.2⟩)]
end
theorem gH{q:Option Addr}{cap:Nat}{ps:List MG}{v:Int}(hF:Fits F w)(hGl:JC F)(hR:Qw F q n 2 (ps.flatMap Di))(hP:WK F ps)(hln:ps.length=n)(hf:∀t∈ps,t.f.length<=9223372036854775807/\t.k.length<=9223372036854775807)(hl:ps.length<=9223372036854775807)(hv:0<=v/\v<=24):Qe prog 89 [.slice q n cap,.int .i64 v] w F (.int .i64 (Zp (YQ ps) v)):=by
 have hal:(YQ ps).length=n:=by unfold YQ;rw[List.length_map];exact hln
 refine QT.intro (G:=λF=>JC F/\Qw F q n 2 (ps.flatMap Di)/\WK F ps) func89 rfl wy rfl rfl hF (λF' hF'=>⟨hGl.le hF',hR.le hF',hP.le hF'⟩)<|QKO<|wQ rfl<|QG<|wR rfl<|QA (Qg rfl VR)<|QA (QU rfl rfl rfl)<|QE<|QC ?_
 refine QO I (λhc=>?_) λhc=>?_
 ·have hbig:=hc;refine wA 6 I ?_;exact QKx I I (congrArg (ag .i64) (by unfold Zp;rw[hal,if_pos hbig])) w8
 have hbig:=QKd hc;refine QKr 9 I<|XM (ι:=xA (YQ ps) v n) [(0,_),(1,_)] (λi=>[(5,.int .i64 ((i.i:Nat):Int))]) (λi=>n-i.i) (⟨0,aK _,λj hj=>absurd hj (Nat.not_lt_zero _)⟩) wT wS λi=>?_
 simp only[ah,ai];have hi:=i.le;refine wA 5 I<|QA (Qg I VR)<|QKq 3 I ?_
 refine QO I (λhc=>?_) λhc=>?_
 ·have hlt:i.i<n:=wk<|QKc hc
  have htm:el ps i.i∈ps:=Q3 O;refine QKr 8 I<|QA (Q6 (n:=n) i.i (λF h9=>h9.2.1) rfl rfl VR Kv O)<|QA (JX (n:=n) (vs:=[tx (el ps i.i).f,.slice (el ps i.i).r.q (el ps i.i).r.n (el ps i.i).r.cap]) ((i.i)*2) (λF h9=>h9.2.1) O rfl Kv I λj v hv=>Jc (f:=Di) (l:=ps) B7 O hv)<|QJD I<|QI I (λ_ _ g h=>gF g (h.1) (f:=(el ps i.i).f) (l:=(el ps i.i).k) (h.2.2 _ htm) ((hf _ htm).1) ((hf _ htm).2) O) λ_=>QKq 10 I ?_
  refine QO I (λhc=>?_) λhc=>?_
  ·have h23:=bne_iff_ne.1 hc;refine wA 7 I ?_
   repeat first|refine Q4 ?_|refine Qy ?_
   exact QKx I I (congrArg (ag .i64) (De hal hbig i hlt (QJb O h23) h23)) w8
  have h23:=bne_eq_false_iff_eq.1 hc;refine QKr 7 I<|QA (Q6 (n:=n) i.i (λF h9=>h9.1.2.1) rfl rfl VR Kv O)<|QA (QH I U2 JR)<|QA (JA (n:=n) ((i.i)*2+0) (λF h9=>h9.1.2.1) O rfl JR (Jc (f:=Di) (l:=ps) B7 O rfl))<|QI I (λ_ _ f k=>QF5 f ) λ_=>QE<|QC ?_
  refine QO I (λhc=>?_) λhc=>?_
  ·have h30:=hc;refine wA 6 I ?_
   repeat first|refine Q4 ?_|refine Qy ?_
   exact QKx I I (congrArg (ag .i64) (De hal hbig i hlt (QJa O h23 h30) wu)) w8
  have h30:=hc;refine QKr 3 I<|JK QJZ mixed wm<|QK (QD I)<|QK (QU I I I)<|QK (QD I) ?_
  refine E7 (t:=33) rfl (λhb33=>?_) λhb33=>?_
  ·have hi0:0<i.i:=wk<|QKc hb33
   have hz0:=(Pl (i.z (i.i-1) O)).1;rw[Il (show i.i-1<ps.length by omega)]at hz0;have htm0:el ps (i.i-1)∈ps:=Q3 O;refine X9 I I<|QK (QD I)<|X9 I I<|QK (QD I)<|X9 I I<|QK (X6 I I O)<|X9 I I<|QK (Q6 (n:=n) ((i.i-1)) (λF h9=>h9.1.1.2.1) rfl wM VR Kv O)<|X9 I I<|QK (QH I BW Jz)<|X9 I I<|QK (JA (n:=n) (((i.i-1))*2+1) (λF h9=>h9.1.1.2.1) O rfl Jz (Jc (f:=Di) (l:=ps) B7 O rfl))<|X9 I I<|QK (QD I)<|X9 I I<|QK (QD I)<|X9 I I<|QK (Q6 (n:=n) i.i (λF h9=>h9.1.1.2.1) rfl rfl VR Kv O)<|X9 I I<|QK (QH I BW Jz)<|X9 I I<|QK (JA (n:=n) ((i.i)*2+1) (λF h9=>h9.1.1.2.1) O rfl Jz (Jc (f:=Di) (l:=ps) B7 O rfl))<|X9 I I<|QM I (λ_ _ f h=>QDZ f (a:=(el ps (i.i-1)).k) (b:=(el ps i.i).k) (h.1.1.2.2 _ htm0) (h.1.1.2.2 _ htm) (Gv hz0 hv.2) (Gv h23 hv.2) (by have h1:=(BG hz0).1;have h2:=(BG h23).1;dsimp only at h1;omega)) λ_=>X9 I I ?_
   refine QK (XJ I)<|QK (Qj I I I)<|Q5<|QC ?_
   refine QO I (λhc=>?_) λhc=>?_
   ·refine wA 6 I ?_
    repeat first|refine Q4 ?_|refine Qy ?_
    exact QKx I I (congrArg (ag .i64) (De hal hbig i hlt (by rw[QEQ O h23 h30,if_pos ⟨hi0,by simpa using hc⟩]) wu)) w8
   refine QN<|Qk<|QKs 3 I<|QA (Qv I I O)<|wB 2 I ?_
   exact Ql (⟨i.i+1,hlt,λj hj=>by
    rcases aW j i.i with g | g
    ·exact i.z j g
    rw[show j=i.i from by omega];first | (rw[QEQ O h23 h30,if_neg (λh=>wk<|QKd hb33)]) | (rw[QEQ O h23 h30,if_neg (λh=>by rw[h.2]at hc;cases hc)])⟩) (by show n-(i.i+1)<n-i.i;omega) wU QJZ λF h=>h.1.1.1
  refine XP I I I<|XP I I I<|XP I I I<|XP I I I<|XP I I I<|XP I I I<|XP I I I<|XP I I I<|XP I I I<|XP I I I<|XP I I I<|XP I I I<|XP I I I<|QK (Qd I I I)<|Q5<|QC<|YV I<|QN<|Qk<|QKs 3 I<|QA (Qv I I O)<|wB 2 I ?_
  exact Ql (⟨i.i+1,hlt,λj hj=>by
    rcases aW j i.i with g | g
    ·exact i.z j g
    rw[show j=i.i from by omega];first | (rw[QEQ O h23 h30,if_neg (λh=>wk<|QKd hb33)]) | (rw[QEQ O h23 h30,if_neg (λh=>by rw[h.2]at hc;cases hc)])⟩) (by show n-(i.i+1)<n-i.i;omega) wU QJZ λF h=>h.1.1
 have hge:n<=i.i:=wk<|QKd hc
 refine Q2 ?_
 repeat first|refine QY ?_|refine QP wy ?_
 refine QZ<|QKs 7 I ?_
 exact QKx I I (congrArg (ag .i64) (O7 hal hbig i hge)) w8
def uw(a:List MG):(YQ a).length=a.length:=by simp[YQ]
def fpB(p:Pt)(v a b c:Int):Bool:=if(p.length:Int)>a\/Zp p v≠0 then false else !(p.any λx=>decide (x.2.sum>b)||!(Uy x.1 c))
def arB(P:Program)(T:TypeId):Option (Nat×TypeId):=match P.underlying T with | some (.array n e)=>some (n,e) | _=>none
def QGx{P:Program}{e:TypeId}(h:arB P T=some (n,e)):P.underlying T=some (.array n e):=by
 unfold arB at h;split at h
 ·rename_i hu;cases h;exact hu
 cases h
section
variable[Dr][df:Df]{P:Program}{N:Nat}{m:Sl}{S:World->Prop}{ty:TypeId}
theorem Ke{e:TypeId}{x:Operand}{b off sz i:Nat}{g:Bool}(hx:ev m x=some (.pointer (some ⟨b,off,none⟩)))(hy:ev m y=some (.int .i64 (i:Int)))(hT:arB P T=some (n,e))(hs:Z1 P e=some (g,sz))(hi:i<n):Qt P N m S (.indexAddr T x y) ty (.pointer (some ⟨b,off+i*sz,none⟩)):=λa w _ _ _ _ ha _=>by
 simp[execOp,ha.ev hx,ha.ev hy,Instr.indexAt,asIntOf,Instr.sureAddr,run_underlying (QGx hT),KX hs,hi,Hu]
end
theorem QFb(z:Int):QDy (Zn z)=ak z.natAbs:=by
 have h:=cm ((z:Int):Rat);rw[QGI,show((z:Int):Rat).num=z from by simp]at h;unfold QDy;rw[h];unfold D8;by_cases h0:z<0
 ·rw[if_pos h0,if_pos wu,Ki h0];rfl
 rw[if_neg h0,XO O,if_neg (by split<;>decide)]
section
variable{xs:List Rat}{rs bs:List (Rat×Rat)}{ks:List Int}
def cR{c:Rat}{r:Rat×Rat}(hc:ZW c r)(hk:∀k∈ks,0<=k)(hx:∀i,i<rs.length->ZW (el xs i) (el rs i)):∀m,m<=rs.length->ZW (dM c xs ks m) (K7 r rs ks m)
 |0,_=>hc
 |m+1,hm=>by
  have ih:=cR hc hk hx m O;have h0:=uh hk m;rw[QDS,Wo];by_cases g:Qm ks m>0
  ·rw[if_pos g];exact Z2 ih (NC (hx m O) h0)
  rw[if_neg g,show(Qm ks m).toNat=0 by omega,fC,Rat.mul_one];exact ih
theorem jK{l:List Tm}(hl:∀t∈l,t.2.length<=rs.length/\∀k∈t.2,0<=k)(hx:∀i,i<rs.length->ZW (el xs i) (el rs i)):ZW (kX xs l) (J5 rs l):=by
 have key:∀(l:List Tm) (a:Rat) (r:Rat×Rat),(∀t∈l,t.2.length<=rs.length/\∀k∈t.2,0<=k)->ZW a r->ZW (l.foldl (λa t=>a+dM t.1 xs t.2 t.2.length) a) (l.foldl (λa t=>Z0 a (K7 (t.1,t.1) rs t.2 t.2.length)) r):=by
  intro l
  induction l with
  |nil=>intro a r _ h;exact h
  |cons t l ih =>
   intro a r hl h;obtain⟨h1,h2⟩:=hl t List.mem_cons_self;have hv:=cR (c:=t.1) (r:=(t.1,t.1)) ⟨aG,aG⟩ h2 hx t.2.length h1;refine ih _ _ (λu hu=>hl u (List.mem_cons_of_mem _ hu)) ?_;unfold ZW Z0 at *
   dsimp only at *
   grind
 exact key l 0 (0,0) hl ⟨aG,aG⟩
end
theorem QEX(hF:Fits F w)(hl:s.length<=9223372036854775807):Qe prog 87 [tx s] w F (.bool (nmS s)):=by
 refine QT.intro (G:=λF=>True) func87 rfl wy rfl rfl hF w8<|QKO<|wQ rfl<|QG<|QKO<|wQ rfl<|QV<|XM (ι:=Bj s λc=>EU c.toNat) [(0,_)] (λi=>[(3,.int .i64 ((i.i:Nat):Int))]) (λi=>s.length-i.i) (Bj.start _ _) wS wS λi=>?_
 simp only[ah,ai];have hle:=i.le;refine wA 5 I<|QA (X7 I Zo)<|QKq 3 I ?_
 refine QO I (λhc=>?_) λhc=>?_
 ·have hi:i.i<s.length:=wk<|QKc hc
  refine QKr 8 I<|QA (Hq (i:=i.i) rfl rfl Zo hi) ?_
  obtain⟨c,hce⟩:∃c,c=s[i.i].toNat:=⟨_,rfl⟩;rw[<-hce];refine QKq 3 I ?_;refine YS [(0,_),(3,_)] [(48,.bool ((!EU c)))] wT ?_ ?_
  ·refine wA 4 I ?_;refine Qs (t:=16) rfl (λhb16=>?_) λhb16=>?_
   ·refine wB 6 I ?_;refine Qs (t:=20) rfl (λhb20=>?_) λhb20=>?_
    ·refine wB 3 I<|J0 I I<|J0 I I<|wB 6 I<|J0 I I<|J0 I I<|wB 12 I ?_
     refine wB 2 I<|QA (XJ I)<|QE ?_
     exact Jg ⟨rfl,rfl,(congrArg (λb=>some (ae b)) (by clear hce;rw[af];simp_all [EU,Yk]<;>omega)),trivial⟩ QJZ w9
    refine wB 6 I ?_;refine Qs (t:=23) rfl (λhb23=>?_) λhb23=>?_
    ·refine wB 8 I ?_;refine Qs (t:=28) rfl (λhb28=>?_) λhb28=>?_
     ·refine wB 3 I<|J0 I I<|J0 I I<|wB 14 I<|QA (XJ I)<|QE ?_
      exact Jg ⟨rfl,rfl,(congrArg (λb=>some (ae b)) (by clear hce;rw[af];simp_all [EU,Yk]<;>omega)),trivial⟩ QJZ w9
     refine wB 6 I ?_;refine Qs (t:=31) rfl (λhb31=>?_) λhb31=>?_
     ·refine wB 8 I ?_;refine Qs (t:=36) rfl (λhb36=>?_) λhb36=>?_
      ·refine wB 11 I<|QA (XJ I)<|QE ?_
       exact Jg ⟨rfl,rfl,(congrArg (λb=>some (ae b)) (by clear hce;rw[af];simp_all [EU,Yk]<;>omega)),trivial⟩ QJZ w9
      refine wB 6 I ?_;refine Qs (t:=40) rfl (λhb40=>?_) λhb40=>?_
      ·refine wB 7 I<|QA (XJ I)<|QE ?_
       exact Jg ⟨rfl,rfl,(congrArg (λb=>some (ae b)) (by clear hce;rw[af];simp_all [EU,Yk]<;>omega)),trivial⟩ QJZ w9
      refine wB 6 I ?_;refine Qs (t:=44) rfl (λhb44=>?_) λhb44=>?_
      ·refine wB 3 I<|QA (XJ I)<|QE ?_
       exact Jg ⟨rfl,rfl,(congrArg (λb=>some (ae b)) (by clear hce;rw[af];simp_all [EU,Yk]<;>omega)),trivial⟩ QJZ w9
      refine wB 5 I<|QA (XJ I)<|QE ?_
      exact Jg ⟨rfl,rfl,(congrArg (λb=>some (ae b)) (by clear hce;rw[af];simp_all [EU,Yk]<;>omega)),trivial⟩ QJZ w9
     refine wB 12 I ?_;refine Qs (t:=40) rfl (λhb40=>?_) λhb40=>?_
     ·refine wB 7 I<|QA (XJ I)<|QE ?_
      exact Jg ⟨rfl,rfl,(congrArg (λb=>some (ae b)) (by clear hce;rw[af];simp_all [EU,Yk]<;>omega)),trivial⟩ QJZ w9
     refine wB 6 I ?_;refine Qs (t:=44) rfl (λhb44=>?_) λhb44=>?_
     ·refine wB 3 I<|QA (XJ I)<|QE ?_
      exact Jg ⟨rfl,rfl,(congrArg (λb=>some (ae b)) (by clear hce;rw[af];simp_all [EU,Yk]<;>omega)),trivial⟩ QJZ w9
     refine wB 5 I<|QA (XJ I)<|QE ?_
     exact Jg ⟨rfl,rfl,(congrArg (λb=>some (ae b)) (by clear hce;rw[af];simp_all [EU,Yk]<;>omega)),trivial⟩ QJZ w9
    refine wB 12 I ?_;refine Qs (t:=31) rfl (λhb31=>?_) λhb31=>?_
    ·refine wB 8 I ?_;refine Qs (t:=36) rfl (λhb36=>?_) λhb36=>?_
     ·refine wB 11 I<|QA (XJ I)<|QE ?_
      exact Jg ⟨rfl,rfl,(congrArg (λb=>some (ae b)) (by clear hce;rw[af];simp_all [EU,Yk]<;>omega)),trivial⟩ QJZ w9
     refine wB 6 I ?_;refine Qs (t:=40) rfl (λhb40=>?_) λhb40=>?_
     ·refine wB 7 I<|QA (XJ I)<|QE ?_
      exact Jg ⟨rfl,rfl,(congrArg (λb=>some (ae b)) (by clear hce;rw[af];simp_all [EU,Yk]<;>omega)),trivial⟩ QJZ w9
     refine wB 6 I ?_;refine Qs (t:=44) rfl (λhb44=>?_) λhb44=>?_
     ·refine wB 3 I<|QA (XJ I)<|QE ?_
      exact Jg ⟨rfl,rfl,(congrArg (λb=>some (ae b)) (by clear hce;rw[af];simp_all [EU,Yk]<;>omega)),trivial⟩ QJZ w9
     refine wB 5 I<|QA (XJ I)<|QE ?_
     exact Jg ⟨rfl,rfl,(congrArg (λb=>some (ae b)) (by clear hce;rw[af];simp_all [EU,Yk]<;>omega)),trivial⟩ QJZ w9
    refine wB 12 I ?_;refine Qs (t:=40) rfl (λhb40=>?_) λhb40=>?_
    ·refine wB 7 I<|QA (XJ I)<|QE ?_
     exact Jg ⟨rfl,rfl,(congrArg (λb=>some (ae b)) (by clear hce;rw[af];simp_all [EU,Yk]<;>omega)),trivial⟩ QJZ w9
    refine wB 6 I ?_;refine Qs (t:=44) rfl (λhb44=>?_) λhb44=>?_
    ·refine wB 3 I<|QA (XJ I)<|QE ?_
     exact Jg ⟨rfl,rfl,(congrArg (λb=>some (ae b)) (by clear hce;rw[af];simp_all [EU,Yk]<;>omega)),trivial⟩ QJZ w9
    refine wB 5 I<|QA (XJ I)<|QE ?_
    exact Jg ⟨rfl,rfl,(congrArg (λb=>some (ae b)) (by clear hce;rw[af];simp_all [EU,Yk]<;>omega)),trivial⟩ QJZ w9
   refine wB 10 I ?_;refine Qs (t:=23) rfl (λhb23=>?_) λhb23=>?_
   ·refine wB 8 I ?_;refine Qs (t:=28) rfl (λhb28=>?_) λhb28=>?_
    ·refine wB 3 I<|J0 I I<|J0 I I<|wB 14 I<|QA (XJ I)<|QE ?_
     exact Jg ⟨rfl,rfl,(congrArg (λb=>some (ae b)) (by clear hce;rw[af];simp_all [EU,Yk]<;>omega)),trivial⟩ QJZ w9
    refine wB 6 I ?_;refine Qs (t:=31) rfl (λhb31=>?_) λhb31=>?_
    ·refine wB 8 I ?_;refine Qs (t:=36) rfl (λhb36=>?_) λhb36=>?_
     ·refine wB 11 I<|QA (XJ I)<|QE ?_
      exact Jg ⟨rfl,rfl,(congrArg (λb=>some (ae b)) (by clear hce;rw[af];simp_all [EU,Yk]<;>omega)),trivial⟩ QJZ w9
     refine wB 6 I ?_;refine Qs (t:=40) rfl (λhb40=>?_) λhb40=>?_
     ·refine wB 7 I<|QA (XJ I)<|QE ?_
      exact Jg ⟨rfl,rfl,(congrArg (λb=>some (ae b)) (by clear hce;rw[af];simp_all [EU,Yk]<;>omega)),trivial⟩ QJZ w9
     refine wB 6 I ?_;refine Qs (t:=44) rfl (λhb44=>?_) λhb44=>?_
     ·refine wB 3 I<|QA (XJ I)<|QE ?_
      exact Jg ⟨rfl,rfl,(congrArg (λb=>some (ae b)) (by clear hce;rw[af];simp_all [EU,Yk]<;>omega)),trivial⟩ QJZ w9
     refine wB 5 I<|QA (XJ I)<|QE ?_
     exact Jg ⟨rfl,rfl,(congrArg (λb=>some (ae b)) (by clear hce;rw[af];simp_all [EU,Yk]<;>omega)),trivial⟩ QJZ w9
    refine wB 12 I ?_;refine Qs (t:=40) rfl (λhb40=>?_) λhb40=>?_
    ·refine wB 7 I<|QA (XJ I)<|QE ?_
     exact Jg ⟨rfl,rfl,(congrArg (λb=>some (ae b)) (by clear hce;rw[af];simp_all [EU,Yk]<;>omega)),trivial⟩ QJZ w9
    refine wB 6 I ?_;refine Qs (t:=44) rfl (λhb44=>?_) λhb44=>?_
    ·refine wB 3 I<|QA (XJ I)<|QE ?_
     exact Jg ⟨rfl,rfl,(congrArg (λb=>some (ae b)) (by clear hce;rw[af];simp_all [EU,Yk]<;>omega)),trivial⟩ QJZ w9
    refine wB 5 I<|QA (XJ I)<|QE ?_
    exact Jg ⟨rfl,rfl,(congrArg (λb=>some (ae b)) (by clear hce;rw[af];simp_all [EU,Yk]<;>omega)),trivial⟩ QJZ w9
   refine wB 12 I ?_;refine Qs (t:=31) rfl (λhb31=>?_) λhb31=>?_
   ·refine wB 8 I ?_;refine Qs (t:=36) rfl (λhb36=>?_) λhb36=>?_
    ·refine wB 11 I<|QA (XJ I)<|QE ?_
     exact Jg ⟨rfl,rfl,(congrArg (λb=>some (ae b)) (by clear hce;rw[af];simp_all [EU,Yk]<;>omega)),trivial⟩ QJZ w9
    refine wB 6 I ?_;refine Qs (t:=40) rfl (λhb40=>?_) λhb40=>?_
    ·refine wB 7 I<|QA (XJ I)<|QE ?_
     exact Jg ⟨rfl,rfl,(congrArg (λb=>some (ae b)) (by clear hce;rw[af];simp_all [EU,Yk]<;>omega)),trivial⟩ QJZ w9
    refine wB 6 I ?_;refine Qs (t:=44) rfl (λhb44=>?_) λhb44=>?_
    ·refine wB 3 I<|QA (XJ I)<|QE ?_
     exact Jg ⟨rfl,rfl,(congrArg (λb=>some (ae b)) (by clear hce;rw[af];simp_all [EU,Yk]<;>omega)),trivial⟩ QJZ w9
    refine wB 5 I<|QA (XJ I)<|QE ?_
    exact Jg ⟨rfl,rfl,(congrArg (λb=>some (ae b)) (by clear hce;rw[af];simp_all [EU,Yk]<;>omega)),trivial⟩ QJZ w9
   refine wB 12 I ?_;refine Qs (t:=40) rfl (λhb40=>?_) λhb40=>?_
   ·refine wB 7 I<|QA (XJ I)<|QE ?_
    exact Jg ⟨rfl,rfl,(congrArg (λb=>some (ae b)) (by clear hce;rw[af];simp_all [EU,Yk]<;>omega)),trivial⟩ QJZ w9
   refine wB 6 I ?_;refine Qs (t:=44) rfl (λhb44=>?_) λhb44=>?_
   ·refine wB 3 I<|QA (XJ I)<|QE ?_
    exact Jg ⟨rfl,rfl,(congrArg (λb=>some (ae b)) (by clear hce;rw[af];simp_all [EU,Yk]<;>omega)),trivial⟩ QJZ w9
   refine wB 5 I<|QA (XJ I)<|QE ?_
   exact Jg ⟨rfl,rfl,(congrArg (λb=>some (ae b)) (by clear hce;rw[af];simp_all [EU,Yk]<;>omega)),trivial⟩ QJZ w9
  simp only[ah,ai];refine QO I (λhc=>?_) λhc=>?_
  ·have hbad:EU (el s i.i).toNat=false:=by rw[Ja hi,<-hce];simpa using hc
   refine wA 6 I ?_
   repeat first|refine Q4 ?_|refine Qy ?_
   exact QKx I I (congrArg ae (by unfold nmS;rw[i.hit hi hbad];rfl)) w8
  have hcg:=hc;refine QN<|Qk<|QKs 3 I<|QA (Qv I I O)<|wB 2 I ?_
  exact Ql (i.next hi (by rw[Ja hi,<-hce];simpa using hcg)) (by show s.length-(i.i+1)<s.length-i.i;omega) wT QJZ w9
 have hge:s.length<=i.i:=wk<|QKd hc
 refine Q2 ?_
 repeat first|refine QY ?_|refine QP wy ?_
 refine QZ<|QC<|wR I<|QA (X7 I Zo)<|wB 2 I ?_
 refine Qs (t:=52) rfl (λhb52=>?_) λhb52=>?_
 ·refine wB 3 I<|QA (X7 I Zo)<|QKq 7 I ?_
  exact QKx I I (congrArg ae (by unfold nmS;rw[i.stop hge];rw[af];simp at *;simp_all<;>omega)) w8
 refine QKq 8 I ?_;exact QKx I I (congrArg ae (by unfold nmS;rw[i.stop hge];rw[af];simp at *;simp_all<;>omega)) w8
theorem QF8{a:List UInt8}{d:Int}(hF:Fits F w)(hd:0<=d/\d<=1000):Qe prog 33 [tx a,.int .i64 d] w F (.bool (Uy a d)):=by
 have hn:=QDc a;refine QT.intro (G:=λF=>True) func33 rfl wy rfl rfl hF w8<|QKO<|wQ rfl<|wR rfl<|QA (X7 rfl Ay)<|QJD rfl<|QA (N0 rfl rfl O)<|QA (Qv rfl rfl O)<|QA (QU rfl rfl rfl)<|QJD rfl ?_
 refine Qs (t:=11) rfl (λhb11=>?_) λhb11=>?_
 ·have hl:a.length<=1000000:=by have h1:=QKc hb11;omega
  refine wB 3 I<|QI I (λ_ _ f k=>CI f (hl)) λ_=>wB 4 I ?_
  refine Qs (t:=16) rfl (λhb16=>?_) λhb16=>?_
  ·refine wB 3 I<|QI I (λ_ _ f k=>QHH f O) λ_=>QL I I<|QI I (λ_ _ f k=>QHM f ) λ_=>QL I I<|QA (X7 I Ay)<|wB 6 I ?_
   refine Qs (t:=24) rfl (λhb24=>?_) λhb24=>?_
   ·refine wB 3 I<|QI I (λ_ _ f k=>QHL f O) λ_=>QL I I<|QA (X7 I Ay)<|QKq 9 I ?_
    exact QKx I I ((congrArg ae (by have h1:=QKc hb11;simp[Uy,h1];simp at hb16 hb24;simp[hb16,hb24]))) w8
   refine QKq 10 I ?_;exact QKx I I ((congrArg ae (by have h1:=QKc hb11;simp[Uy,h1];simp at hb16 hb24;simp[hb16];intro g;omega))) w8
  refine QKq 18 I ?_;exact QKx I I ((congrArg ae (by have h1:=QKc hb11;simp at hb16;simp[Uy,h1,hb16]))) w8
 refine QKq 23 I ?_;exact QKx I I ((congrArg ae (by simp[Uy,hb11]))) w8
theorem SK(r:Rat):Qh (Jh r)=r:=by
 unfold Qh Jh;by_cases h:r.den=1
 ·rw[if_pos h,To (Pm _)];dsimp only;rw[if_neg wu,Kt];have:=fk r;rw[h,Rat.mkRat_one]at this;exact this
 rw[if_neg h,Et (Pm _)];dsimp only;rw[if_pos rfl,Kt,Xd];exact fk r
def QCS{l:List UInt8}(h:Jb l≠n):¬ak n=l:=λe=>h (by rw[<-e,Xd])
def Tq{r:Rat}(h:Jo r=false):Jd (Jh r)=0:=by
 unfold Jo Rb at h;rw[ee]at h;have h1:=QKd h.1;have h2:=QKd h.2;have ln:¬600<(ak r.num.natAbs).length:=λe=>h1 ((Ca _).1 e);have ld:¬600<(ak r.den).length:=λe=>h2 (by rw[fc];exact(Ca _).1 e);have hneg:(au (Zn r.num) [45]&&ak r.num.natAbs==[48])=false:=by
  by_cases g:r.num<0
  ·have:¬ak r.num.natAbs=[48]:=QCS (by show 0≠_;omega);rw[beq_false_of_ne this,Bool.and_false]
  rw[XO O,Vh (Jx _)];rfl
 unfold Jd Jh;by_cases hd:r.den=1
 ·rw[if_pos hd,To (Pm _)];dsimp only;unfold Ht LX;rw[Hm,Lc,hneg,decide_eq_false ln];simp
 rw[if_neg hd,Et (Pm _)];dsimp only;unfold Ht LX;have h0:¬ak r.den=[48]:=QCS (by show 0≠_;have:=r.den_nz;omega);have h9:¬ak r.den=[49]:=QCS (by show 1≠_;omega);have hg:bw r.num.natAbs r.den=1:=r.reduced;rw[Hm,Lc,Lc,hneg,decide_eq_false ln,decide_eq_false ld,Xd,Xd,hg,beq_false_of_ne h0,beq_false_of_ne h9];simp
theorem BS{r:Rat}(h:JQ r<=k)(hk:k<=1800):Jo r=false:=by
 unfold Jo Rb;have a:∀z:Int,sz z<=k->decide (lim<=z.natAbs)=false:=λz hz=>by
  have h1:=(XE z 1800).1 O;have h2:=xJ;refine decide_eq_false λe=>?_;exact absurd (Nat.lt_trans (Nat.lt_of_le_of_lt e h1) h2) (fq _)
 rw[a _ (bm (Jw r) h),a _ (bm (Jp r) h)];rfl
section
variable{w:World}{F:Gs}
def QCV{a b:Rat}(ha:Jo a=false)(hb:Jo b=false)(h:a<=b):Xc (Jh a) (Jh b)=0:=by
 unfold Xc;rw[Tq ha,Tq hb,if_pos (show Qp [0,0]=0 from rfl),SK,SK,if_neg];have:=(Dh a b).2 h;omega
end
theorem kV(x:Int):Qp [x]=x:=by
 unfold Qp;split
 ·rename_i h;rw[h];rfl
 rfl
theorem QAn{y:ZR}{r:Sr}{tb:List Vp}(hF:Fits F w)(hGl:JC F)(hy:ZZ F y)(ht:HM y)(hx:Sw F r tb)(hc:gP r tb):Qe prog 109 [y.v,r.v] w F (.int .i64 (Qp [y.e,BB y.nm.n tb])):=by
 refine QT.intro (G:=λF=>JC F/\ZZ F y/\Sw F r tb) func109 rfl wy rfl rfl hF (λF' hF'=>⟨hGl.le hF',hy.le hF',hx.le hF'⟩)<|QKO<|Qu rfl (vs:=[_,_,_]) rfl λb2=>wQ rfl<|QG<|QKO<|QA (wI I XA .here)<|QI rfl (λ_ _ f k=>Zf (y:=y) f k.1 k.2.1 ht) λ_=>wQ rfl<|wR rfl<|QA (QU rfl rfl rfl)<|QE<|QC ?_
 refine QO I (λhc2=>?_) λhc2=>?_
 ·have h9:y.e≠0:=bne_iff_ne.1 hc2;refine wA 7 I ?_;exact QKx I I (congrArg (ag .i64) (by rw[Zg h9])) w8
 have h9:y.e=0:=bne_eq_false_iff_eq.1 hc2;refine QKr 4 I<|QA (wI I XA .here)<|QJD I<|QI I (λ_ _ f k=>SU (y:=y) f k.1.1 k.1.2.1 k.1.2.2 hc) λ_=>wQ I<|QW ?_
 exact QKx I I (congrArg (ag .i64) (by rw[h9,ZS,kV])) w8
theorem AH{y:Rat}{a b:Jr}(hx:ZW x a)(hy:ZW y b):ZW (x+y) (Z0 a b):=by
 obtain⟨h1,h2⟩:=hx;obtain⟨k1,k2⟩:=hy;constructor<;>(unfold Z0;grind)
theorem Aq{rs:List (List Tm)}{t:Jr}{box:List Jr}(hi:i<box.length){j:Nat}:∀k,j<=k->el (el (Jt rs t box k) i) j=el (el (Jt rs t box j) i) j
 |0,h=>by
  obtain rfl:j=0:=O;rfl
 |k+1,h=>by
  by_cases e:j=k+1
  ·subst e;rfl
  rw[<-Aq hi k O,Jt,YP _ hi];have hl:=KY rs t box k hi;rw[Ja (by rw[aB,hl];omega),List.getElem_append_left O,<-Ja]
theorem QAl{a b:List Jr}{p q:Nat->Rat}:∀i,i<=k+1->(∀j,j<i->ZW (p j) (el a j)/\ZW (q j) (el b (k-j))) ->
  ZW ((bz i).foldl (λs j=>s+p j*q j) 0) (Hl a b k i)
 |0,_,_=>⟨aG,aG⟩
 |i+1,hi,h=>by
  unfold Hl;rw[bh,aF,aF];exact AH (QAl i O λj hj=>h j O) (Z2 (h i O).1 (h i O).2)
def uj(c:Rat)(n j:Nat)(h:j<=n):ZW (if j=0 then c else 0) (el (VK c n) j):=by
 cases j with
 |zero=>exact⟨aG,aG⟩
 |succ j =>
  rw[if_neg O];show ZW 0 (el (aR n ((0,0):Jr)) j);rw[Ja (by simpa using(by omega:j<n))];simp[ZW,aG]
theorem LW{c:Rat}{v:List Jr}{j:Nat}(hj:j<=k){x:Rat}(hx:ZW x (el v j)):(∀i,i<=j->∃y,ZW y (el v i))->ZW (c*x) (el (VP (VK c k) v) j):=by
 intro hne;unfold VP;rw[Y0,YP _ O];have hy:∀i,∃y,i<=j->ZW y (el v (j-i)):=λi=>by
  obtain⟨y,hy⟩:=hne (j-i) O;exact⟨y,λ_=>hy⟩
 have:=QAl (a:=VK c k) (b:=v) (k:=j) (p:=λi=>if i=0 then c else 0) (q:=λi=>if i=0 then x else eu (hy i)) (j+1) (av _) λi hi=>by
  refine⟨uj c k i O,?_⟩;by_cases e:i=0
  ·subst e;rw[if_pos rfl];exact hx
  rw[if_neg e];exact Classical.choose_spec (hy i) O
 have e:(bz (j+1)).foldl (λs i=>s+(if i=0 then c else 0)*(if i=0 then x else eu (hy i))) 0=c*x:=by
  have key:∀n,(bz (n+1)).foldl (λs i=>s+(if i=0 then c else 0)*(if i=0 then x else eu (hy i))) 0=c*x:=by
   intro n
   induction n with
   |zero=>show 0+(if 0=0 then c else 0)*_=_;rw[if_pos rfl,if_pos rfl,fB]
   |succ n ih =>
    rw[bh,aF,ih];show c*x+(if n+1=0 then c else 0)*_=_;rw[if_neg O,fA,fD]
  exact key j
 rw[e]at this;exact this
def cg{l:List Jr}{c:Nat->Rat}:∀n,(∀k,k<n->ZW (c k) (el l k))->ZW ((bz n).foldl (λs k=>s+c k*h^k) 0) (Ho l h n)
 |0,_=>⟨aG,aG⟩
 |n+1,hc=>by
  unfold Ho;rw[bh,aF,aF];exact AH (cg n λk hk=>hc k O) (Z2 (hc n O) ⟨aG,aG⟩)
def cT(rs:List (List Tm))(n:Nat)(b:Int)(fr:Rat)(x:List Jr)(e:Rat)(es:List Rat):Wk rs n b fr x (e::es)=match Y4 rs fr e x n b with
  |none=>none
  |some (w,l)=>(Wk rs n b e l es).map λr=>(e,w,l)::r:=rfl
def VG(a:Jr)(m:Rat):Prop:=(-m<=a.1/\a.1<=m)/\(-m<=a.2/\a.2<=m)
theorem AJ{y n:Rat}(hx : -m<=x/\x<=m)(hy : -n<=y/\y<=n): -(m*n)<=x*y/\x*y<=m*n:=by
 have h1:=bN (show 0<=m-x by grind) (show 0<=n-y by grind);have h2:=bN (show 0<=m+x by grind) (show 0<=n+y by grind);have h3:=bN (show 0<=m-x by grind) (show 0<=n+y by grind);have h4:=bN (show 0<=m+x by grind) (show 0<=n-y by grind);constructor<;>grind
theorem VG.times{a b:Jr}{n:Rat}(ha:VG a m)(hb:VG b n):VG (JE a b) (m*n):=by
 have h:=Gh (a.1*b.1) [a.1*b.2,a.2*b.1,a.2*b.2];have key:∀y∈a.1*b.1::[a.1*b.2,a.2*b.1,a.2*b.2],-(m*n)<=y/\y<=m*n:=by
  intro y hy;simp only[List.mem_cons,List.not_mem_nil,or_false]at hy;rcases hy with rfl | rfl | rfl | rfl
  ·exact AJ ha.1 hb.1
  ·exact AJ ha.1 hb.2
  ·exact AJ ha.2 hb.1
  exact AJ ha.2 hb.2
 exact⟨key _ h.1,key _ h.2⟩
theorem VG.add{a b:Jr}{n:Rat}(ha:VG a m)(hb:VG b n):VG (Z0 a b) (m+n):=by
 obtain⟨⟨a1,a2⟩,a3,a4⟩:=ha;obtain⟨⟨b1,b2⟩,b3,b4⟩:=hb;refine⟨⟨?_,?_⟩,?_,?_⟩<;>(unfold Z0;grind)
def VG.pt(h : -m<=x/\x<=m):VG (x,x) m:=⟨h,h⟩
theorem VG.mono{a:Jr}{n:Rat}(h:VG a m)(k:m<=n):VG a n:=by
 obtain⟨⟨a1,a2⟩,a3,a4⟩:=h;exact⟨⟨by grind,by grind⟩,by grind,by grind⟩
theorem QDG{a b:List Jr}{p q:Nat->Rat}:∀i,i<=k+1->(∀j,j<i->VG (el a j) (p j)/\VG (el b (k-j)) (q j)) ->
  VG (Hl a b k i) ((bz i).foldl (λs j=>s+p j*q j) 0)
 |0,_,_=>show VG (0,0) 0 from VG.pt ⟨wv,aG⟩
 |i+1,hi,h=>by
  unfold Hl;rw[bh,aF,aF];exact(QDG i O λj hj=>h j O).add ((h i O).1.times (h i O).2)
def QCT(c:Rat){ca:Rat}(hc : -ca<=c/\c<=ca)(n j:Nat)(h:j<=n):VG (el (VK c n) j) (if j=0 then ca else 0):=by
 cases j with
 |zero=>exact VG.pt hc
 |succ j =>
  rw[if_neg O];show VG (el (aR n ((0,0):Jr)) j) 0;rw[Ja (by simpa using(by omega:j<n))];rw[List.getElem_replicate];exact VG.pt ⟨wv,aG⟩
theorem Cv{c ca:Rat}(hc : -ca<=c/\c<=ca){v:List Jr}{k j:Nat}(hj:j<=k){m:Nat->Rat}(hv:∀i,i<=j->VG (el v i) (m i)):VG (el (VP (VK c k) v) j) (ca*m j):=by
 unfold VP;rw[Y0,YP _ O];have:=QDG (a:=VK c k) (b:=v) (k:=j) (p:=λi=>if i=0 then ca else 0) (q:=λi=>m (j-i)) (j+1) (av _) λi hi=>⟨QCT c hc k i O,hv (j-i) O⟩;have e:(bz (j+1)).foldl (λs i=>s+(if i=0 then ca else 0)*m (j-i)) 0=ca*m j:=by
  have key:∀n,(bz (n+1)).foldl (λs i=>s+(if i=0 then ca else 0)*m (j-i)) 0=ca*m j:=by
   intro n
   induction n with
   |zero=>show 0+(if 0=0 then ca else 0)*_=_;rw[if_pos rfl,fB];rfl
   |succ n ih =>
    rw[bh,aF,ih];show ca*m j+(if n+1=0 then ca else 0)*_=_;rw[if_neg O,fA,fD]
  exact key j
 rw[e]at this;exact this
def ju(hh:0<=h):∀n:Nat,0<=h^n
 |0=>by rw[fC];decide +kernel
 |n+1=>by rw[Rat.pow_succ];exact bN (ju hh n) hh
theorem QCv{l:List Jr}(hh:0<=h){c:Nat->Rat}:∀n,(∀k,k<n->VG (el l k) (c k))->VG (Ho l h n) ((bz n).foldl (λs k=>s+c k*h^k) 0)
 |0,_=>show VG (0,0) 0 from VG.pt ⟨wv,aG⟩
 |n+1,hc=>by
  unfold Ho;rw[bh,aF,aF];have:=ju hh n;exact(QCv hh n λk hk=>hc k O).add ((hc n O).times (VG.pt ⟨by grind,aG⟩))
theorem QHT{a:Jr}{b:Int}(h:VG a (((2:Int)^k:Int):Rat)):O3 (k+b.toNat+2) (Xe a b):=by
 have hT:0<two b:=Int.pow_pos wu;have hTq:(0:Rat)<=((two b:Int):Rat):=Rat.le_of_lt ((Rat.intCast_lt_intCast (a:=0) (b:=two b)).2 hT);have key:∀p:Int,(-(2^k*two b)<=p/\p<=2^k*two b)->JQ (ao p (two b))<=k+b.toNat+2:=λp hp=>by
  refine bm (VA O) ?_;have e:two b=((2^b.toNat:Nat):Int):=by unfold two;rw[eK];rfl
  have s1:sz (two b)<=k+b.toNat+2:=by
   rw[XE,e,fc];exact eZ wu O
  have s2:sz p<=k+b.toNat+2:=by
   rw[XE];have e2:(2:Int)^k*two b=((2^(k+b.toNat):Nat):Int):=by rw[e,Nat.pow_add,fj,eK 2 k];rfl
   rw[e2]at hp;have:2^(k+b.toNat)<2^(k+b.toNat+2):=eZ wu O;omega
  exact Nat.max_le.2 ⟨s2,s1⟩
 have mul:∀x:Rat,(-(((2:Int)^k:Int):Rat)<=x/\x<=(((2:Int)^k:Int):Rat))->-(((2^k*two b:Int)):Rat)<=x*((two b:Int):Rat)/\x*((two b:Int):Rat)<=((2^k*two b:Int):Rat):=λx hx=>by
  rw[Rat.intCast_mul];have m1:=eC hx.1 hTq;have m2:=eC hx.2 hTq;rw[Rat.neg_mul]at m1;exact⟨m1,m2⟩
 refine⟨key _ (Rn (mul _ h.1)),key _ ?_⟩;have:=Rn (c:=2^k*two b) (x:=-(a.2*((two b:Int):Rat))) (by have:=mul _ h.2;constructor<;>grind);omega
end Go.Proofs.YtpmehagnedbkhaaGreatDoor
