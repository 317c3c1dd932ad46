/- Steps of the proof of the theorem in the last file. -/
import Derived.Test.YtbpmnjieoncbcaaGreatDoorQ0
import Derived.IntWalk
import Derived.Test.YtbpmnjieoncbcaaGreatDoorProg
import Derived.KernelRfl
import Derived.Lib.ItoaNum
import Derived.Lib.Atoi
import Derived.Lib.Repeat
import Derived.Lib.IndexMore
set_option linter.all false
set_option maxHeartbeats 4000000
open Go.Proofs.Tryz
open Go.Lib renaming trimPrefix → aa,decDigits → aj,hasPrefix → ar,decDigits_length → bm
open Go.Value renaming bool → ab,int → af,slice → fl
open Bool renaming eq_iff_iff → ae,or_eq_false_iff → ee,not_eq_false' → eZ,and_eq_true → fb
open List renaming cons_append → ag,nil_append → ah,eq_nil_of_length_eq_zero → ao,take_of_length_le → aq,length_set → av,length_take → ay,length_append → aC,getElem?_toArray → aF,drop_drop → aG,take_set_of_le → aH,length_singleton → aK,take_length → aL,length_drop → aM,length_cons → aN,drop_eq_getElem_cons → aS,take_succ_eq_append_getElem → aT,drop_set_of_lt → aY,replicate → bj,drop_zero → bD,drop_of_length_le → bF,drop_eq_nil_of_le → bG,length_nil → bW,take_append_drop → bX,drop_set → er,length → eC,isPrefixOf → eE,takeWhile_cons_of_pos → eM,length_eq_zero_iff → eT,getElem?_eq_none → eV,takeWhile_cons → eX,all_eq_true → fa,append_nil → fc,set_set → fj,range → fI
open Int renaming mul_le_mul_of_nonneg_left → ai,mul_le_mul_of_nonneg_right → aA,mul_comm → aI,pow_succ → aQ,one_mul → aX,gcd → aZ,natAbs_mul → ba,mul_ne_zero → bz,ediv_nonneg → bA,emod_add_mul_ediv → bH,ediv_le_self → bI,mul_sub → bL,mul_add → bM,lt_or_le → bN,sub_add_cancel → bO,mul_nonneg → bP,mul_le_mul → bQ,emod_lt_of_pos → bR,le_refl → bT,mul_assoc → bU,emod_nonneg → bY,ediv_lt_of_lt_mul → bZ,sub_mul → ei,add_mul → ek,toNat_of_nonneg → eu,toNat_natCast → ey,mul_zero → eB,pow_add → eF,mul_one → eG,natAbs_tdiv → eI,mul_lt_mul_of_pos_right → eN,lt_of_mul_lt_mul_left → eP,eq_of_mul_eq_mul_left → eQ,mul_ediv_cancel_left → eU,gcd_dvd_left → fe,ofNat_tmod → fg,ofNat_tdiv → fh,add_assoc → fk,zero_mul → fz,zero_add → fA,lt_trans → fB,emod_def → fC,mul_neg → fK
open Rat renaming divInt → ak,mul_nonneg → au,mul_le_mul_of_nonneg_right → aD,le_of_lt → aP,le_refl → aR,mul_le_mul_of_nonneg_left → bc,div_def → bB,le_trans → bV,mul_one → ef,mul_lt_mul_of_pos_right → eK,mul_assoc → eR,neg_num → eW,neg_divInt_neg → e8,inv_mul_cancel → e9,mkRat_self → ff,zero_mul → fm,pow_zero → fp,pow_succ → fq,le_total → fu,neg_den → fH
open Nat renaming le_refl → ax,eq_zero_or_pos → aB,mul_lt_mul_of_lt_of_lt → aE,zero_le → aJ,zero_add → aU,pow_le_pow_right → aV,lt_or_ge → aW,le_trans → bh,gcd → bw,add_sub_cancel_left → bC,add_assoc → bJ,pow_le_pow_left → ep,add_sub_cancel → ew,div_le_self → eH,mod_lt → eO,lt_irrefl → fi,gcd_comm → fy
open And renaming intro → aO
open List.Perm renaming refl → bK
open UInt8 renaming ofNat → bS
open Go.IntWalk renaming i64_in → eD
open Go.Result renaming andThen_ok → eY
open Go.Sem renaming run_pure → fD,run_bind → fF
open Go.Lib.decDigits renaming eq_1 → fG
open List.Sublist renaming refl → fJ
namespace Go.Proofs.YtbpmnjieoncbcaaGreatDoor
variable{c f t z zx:Int}{x y:Rat}{T yT:TypeId}{a b l o out u:List Int}{i k n:Nat}{s:List UInt8}{w:World}{F:Gs}{ra rb:Sr}
open Go.RowKit
section
variable[Dr][df:Df]
section
variable{P:Program}{Q:Exit->Act->World->Prop}{N:Nat}{m:Sl}{E:Env}
theorem Ut{c:Operand}{x y:Code}(hc:ev m c=some (.bool true))(h:J P x Q N m E):J P (.cond c x y) Q N m E:=QR hc (λ_=>h) λh=>by cases h
variable{ops:Array Oper}{l:List Oper}{E0:Env}
variable{d:Nat}{o:Op}{ty:TypeId}{pos:String}{aft:Array Edge}{v:Value}
end
end
section
variable[Dr][df:Df]
section
variable{P:Program}{N:Nat}{m:Sl}{S:World->Prop}{ty:TypeId}{v:Value}
theorem SX{x y:Operand}{a b:Int}(hx:ev m x=some (.int .i64 a))(hy:ev m y=some (.int .i64 b))(ha:0<=a)(ha':a<=9223372036854775807)(hb:0<b):Qt P N m S (.binOp .quo T x y yT) ty (.int .i64 (a/b)):=by
 have:=vp (P:=P) (N:=N) (m:=m) (S:=S) (ty:=ty) (T:=T) (yT:=yT) hx hy O;have e:a.tdiv b=a/b:=Int.tdiv_eq_ediv_of_nonneg ha;have h0:0<=a/b:=bA ha O;have h1:a/b<=a:=bI b ha;rw[e,eD _ ⟨O,O⟩]at this;exact this
theorem qF{src dst:TypeId}{x:Operand}{k':IntKind}{n:Int}(hx:ev m x=some (.int k' n))(hs:(P.underlying src).isSome=true)(hk:Nk P dst=some .i64)(h : -9223372036854775808<=n/\n<=9223372036854775807):Qt P N m S (.convert src dst x) ty (.int .i64 n):=by
 have:=Ir (P:=P) (N:=N) (m:=m) (S:=S) (ty:=ty) hx hs hk;rw[CO h]at this;exact this
theorem QF2{T':TypeId}{x y:Operand}{a b:Int}(hx:ev m x=some (.int .i64 a))(hy:ev m y=some (.int .i64 b)):Qt P N m S (.call ⟨.builtin .max,#[x,y],#[T,T']⟩) ty (.int .i64 (if b>a then b else a)):=λs w _ _ _ _ ha _=>by
 rw[YF];simp[builtin,ha.ev hx,ha.ev hy,Builtin.max_,Builtin.max2]
end
end
section
variable[Dr][df:Df]
section
variable{P:Program}{Q:Exit->Act->World->Prop}{N:Nat}{m:Sl}{E E0:Env}{ops:Array Oper}{l:List Oper}{w0:World}{F0:Gs}{bs:List (Nat×Obj)}{G:Gs->Prop}{ty:TypeId}{v:Value}{S:World->Prop}
theorem Tj(v:Value):∀n,Xb [v] n=bj n v
 |0=>rfl
 |n+1=>by rw[Xb,Tj v n];rfl
end
end
theorem SA:Z5 prog 4=some (false,1):=wm
theorem QGI:(prog.underlying 5).isSome=true:=wm
theorem Mu:BZ prog 27=true:=wm
theorem Xg:Z5 prog 97=some (true,2):=wm
theorem Dp:XE prog 97=some [.bool false,.slice none 0 0]:=wm
theorem QF5:Zz prog 97=some [(0,1),(1,1)]:=wm
theorem Rh:YZ prog 97 0=some (0,4):=wm
theorem WY:YZ prog 97 1=some (1,57):=wm
end Go.Proofs.YtbpmnjieoncbcaaGreatDoor
namespace Ig
def VX(l:List Int):(Je l).length<=l.length:=by
 obtain⟨n,hn⟩:=Sj l;have:=congrArg eC hn;simp at this;omega
end Ig
namespace Go.Proofs.YtbpmnjieoncbcaaGreatDoor
variable{c f t z zx:Int}{x y:Rat}{T yT:TypeId}{a b l o out u:List Int}{i k n:Nat}{s:List UInt8}{w:World}{F:Gs}{ra rb:Sr}
open Go.RowKit Ig
def B2(w:World)(R:Nat)(s:Int)(q:Option Addr)(n cap:Nat):Prop:=w.cell? ⟨R,0,none⟩=some (.int .i64 s)/\w.cell? ⟨R,1,none⟩=some (.slice q n cap)
section
open Go.RowKit Go.ChangeShapes Go.WideShapes Ig
section
variable{H:Type}{enc:TypeId×Value->H}{w:World}{b:Nat}{v:Value}{d:DataW H}{p:List MemPlace}
set_option maxRecDepth 100000 in
theorem Xby{t:TypeId}(ht:prog.underlying t=some .string)(hv:Value.okWide prog w .any b t v)(h:DataW.Trod enc prog w 0 (λ_=>true) true t v d p):∃l,v=tx l:=by
 obtain⟨s,rfl,_⟩:=ChangeMaps.open_string ht hv h;exact⟨s.data.toList,by simp[tx]⟩
end
end
open Go
def kJ(h:0<n):∃c l,aj n=c::l/\c≠48:=by
 induction n using Nat.strongRecOn with
 |_ n ih =>
  rw[aj];split
  ·rename_i h10;refine⟨_,[],rfl,λe=>?_⟩;have:=Kw h10;rw[e]at this;simp at this;omega
  obtain⟨c,l,e,hc⟩:=ih (n/10) O O;exact⟨c,l++[bS (48+n%10)],by rw[e];rfl,hc⟩
theorem LD(n:Nat):Xt (aj n)=true:=by
 rcases aB n with h | h
 ·subst h;rw[Ya];decide
 obtain⟨c,l,e,hc⟩:=kJ h;have:=J0 n;rw[e]at this ⊢;simp[Xt,this,hc]
def cF{l:List UInt8}(h:l.length<=k):(Hv k l).length=k:=by
 unfold Hv;rw[Ga];simp;omega
def ahead(p:UInt8->Bool)(s:List UInt8):Nat:=(s.takeWhile λc=>!p c).length
def gH{p:UInt8->Bool}(hi:i<s.length)(h:(s.take i).all (λc=>!p c)=true)(hp:p s[i]=true):ahead p s=i:=by
 unfold ahead;have e:s=s.take i++s[i]::s.drop (i+1):=by rw[<-aS hi,bX]
 have hl:(s.take i).length=i:=w6;rw[e,List.takeWhile_append_of_pos (by simpa using h),eX];simp[hp];omega
def gI{p:UInt8->Bool}(h:s.all (λc=>!p c)=true):ahead p s=s.length:=by
 unfold ahead
 induction s with
 |nil=>rfl
 |cons c s ih =>
  simp only[List.all_cons,fb]at h;rw[eX,if_pos h.1,aN,ih h.2,aN]
def LA{p:UInt8->Bool}(hi:i<s.length)(h:(s.take i).all p=true)(hp:p s[i]=true):(s.take (i+1)).all p=true:=by
 rw[aT hi,List.all_append,h];simp[hp]
def Zx(c:UInt8):Bool:=c==47
def AI{c d:UInt8}(hz:z=(d.toNat:Int)):((c.toNat:Int)==z)=(c==d):=by
 rw[ae];simp only[beq_iff_eq];constructor
 ·intro h;apply UInt8.toNat.inj;omega
 rintro rfl;exact hz.symm
theorem Sx(hF:Fits F w)(hl:s.length<=9223372036854775807):Qg prog 103 [tx s] w F (.int .i64 (ahead Zx s)):=by
 refine QV.intro (G:=λ_=>True) func103 rfl wy rfl rfl hF w8<|QI7<|wQ rfl<|QG<|QI7<|wQ rfl<|QW<|YA (ι:=Uw s.length λi=>(s.take i).all (λc=>!Zx c)=true) (λi=>[(0,tx s),(3,.int .i64 i.i)]) (λ_=>[]) (λ_ _=>True) (λi=>s.length-i.i) ⟨0,aJ _,rfl⟩ wT QIM w8 λi=>?_
 have hle:=i.le;refine wA 5 I<|QA (Xj I Zk)<|QJK 3 I ?_
 refine QR I (λhc=>?_) λhc=>?_
 ·have hi:i.i<s.length:=by simp at hc;omega
  clear hc;refine QJL 8 I<|QA (Hj I I Zk (hi))<|QJK 3 I ?_
  refine QR I (λhc=>?_) λhc=>?_
  ·refine wA 7 I ?_
   repeat first|refine Q6 ?_|refine Qy ?_
   exact QS () I (wN I) (congrArg (λn:Nat=>af .i64 (n:Int)) (gH hi i.h (by unfold Zx;have:=hc;rw[AI (d:=47) (z:=47) rfl]at this;simpa using this))) w8
  refine QO<|Qk<|QJM 3 I<|QA (Qw I I O)<|wB 2 I ?_
  exact Qm (⟨i.i+1,O,LA hi i.h (by unfold Zx;have:=hc;rw[AI (d:=47) (z:=47) rfl]at this;simpa using this)⟩:Uw s.length λi=>(s.take i).all (λc=>!Zx c)=true) (by show s.length-(i.i+1)<s.length-i.i;omega) wT QIM w8
 refine Qz ?_
 repeat first|refine QZ ?_|refine QQ wy ?_
 refine Qa<|QC<|wR I<|QA (Xj I Zk)<|wQ I<|QY ?_
 exact QS () I (wN I) (congrArg (λn:Nat=>af .i64 (n:Int)) (gI (by have e:=i.h;rw[aq (by simp at hc;omega)]at e;exact e))) w8
theorem vj(hF:Fits F w)(hl:s.length<=9223372036854775807):Qg prog 171 [tx s] w F (.bool (ZG s)):=by
 refine QV.intro (G:=λ_=>True) func171 rfl wy rfl rfl hF w8<|QI7<|wQ rfl<|QG<|QI7<|wQ rfl<|QW<|YA (ι:=Uw s.length λi=>(s.take i).all I1=true) (λi=>[(0,tx s),(3,.int .i64 i.i)]) (λ_=>[]) (λ_ _=>True) (λi=>s.length-i.i) ⟨0,aJ _,rfl⟩ wT QIM w8 λi=>?_
 have hle:=i.le;refine wA 5 I<|QA (Xj I Zk)<|QJK 3 I ?_
 refine QR I (λhc=>?_) λhc=>?_
 ·have hi:i.i<s.length:=by simp at hc;omega
  clear hc;refine QJL 8 I<|QA (Hj I I Zk (hi))<|wB 2 I ?_
  refine Ql (t:=14) rfl (λhb14=>?_) λhb14=>?_
  ·refine QJK 7 I<|Ut I<|wA 6 I ?_
   repeat first|refine Q6 ?_|refine Qy ?_
   exact QS () I (wN I) (congrArg ab (by rw[UF hi (by have h1:=QJG hb14;cases hd:I1 s[i.i]with | false=>rfl | true=>(have:=Ki.1 hd;omega))])) w8
  refine wB 5 I<|QA (Hj I I Zk (hi))<|QJK 5 I ?_
  refine QR I (λhc=>?_) λhc=>?_
  ·refine wA 6 I ?_
   repeat first|refine Q6 ?_|refine Qy ?_
   exact QS () I (wN I) (congrArg ab (by rw[UF hi (by have h1:=QJG hc;cases hd:I1 s[i.i]with | false=>rfl | true=>(have:=Ki.1 hd;omega))])) w8
  refine QO<|Qk<|QJM 3 I<|QA (Qw I I O)<|wB 2 I ?_
  exact Qm (⟨i.i+1,O,LA hi i.h (Ki.2 (by have h1:=QJH hb14;have h2:=QJH hc;constructor<;>omega))⟩:Uw s.length λi=>(s.take i).all I1=true) (by show s.length-(i.i+1)<s.length-i.i;omega) wT QIM w8
 refine Qz ?_
 repeat first|refine QZ ?_|refine QQ wy ?_
 refine Qa<|QJM 7 I ?_
 exact QS () I (wN I) (congrArg ab (by have e:=i.h;rw[aq (by simp at hc;omega)]at e;exact e)) w8
theorem QEW(h1:(1:Int)<(s.length:Int))(h:s[0]' O=48):Xt s=false:=by
 cases s with
 |nil=>simp at h1
 |cons c r =>
  have hc:c=48:=h;subst hc;have hr:r≠[]:=by intro e;subst e;simp at h1
  simp[Xt,hr]
theorem QDB(h1:(1:Int)<(s.length:Int))(h:¬s[0]' O=48):Xt s=ZG s:=by
 cases s with
 |nil=>simp at h1
 |cons c r =>
  have hc:¬c=48:=h;simp[Xt,hc]
theorem QEV(h0:0<s.length)(h1:s.length<=1):Xt s=ZG s:=by
 match s,h0,h1 with
 |[c],_,_ =>
  by_cases hc:c=48
  ·subst hc;rfl
  simp[Xt,hc]
theorem QCT(hF:Fits F w)(hl:s.length<=9223372036854775807):Qg prog 104 [tx s] w F (.bool (Xt s)):=by
 refine QV.intro (G:=λ_=>True) func104 rfl wy rfl rfl hF w8<|QI7<|wQ rfl<|QG<|wR rfl<|QA (Xj rfl Zk)<|QA (QT rfl rfl rfl)<|QH0 rfl ?_
 refine Ql (t:=6) rfl (λhb6=>?_) λhb6=>?_
 ·refine wB 4 I<|Jn I I<|Jn I I<|Jn I I<|QJK 4 I<|Ut I<|wA 6 I ?_
  exact QS () I (wN I) (congrArg ab (by have h0:s=[]:=(by simpa using hb6);subst h0;rfl)) w8
 refine wB 3 I<|QA (Xj I Zk)<|wB 4 I ?_
 refine Ql (t:=10) rfl (λhb10=>?_) λhb10=>?_
 ·refine wB 3 I<|QA (Hj (i:=0) rfl rfl Zk (wk<|QJG hb10))<|QJK 7 I ?_
  refine QR I (λhc=>?_) λhc=>?_
  ·refine wA 6 I ?_;exact QS () I (wN I) (congrArg ab (QEW (QJG hb10) (by have h:=hc;rw[AI (d:=48) (z:=48) rfl]at h;simpa using h))) w8
  refine QJL 5 I<|QI I (λ_ _ f _=>vj f hl) λ_=>wQ I<|QY ?_
  exact QS () I (wN I) (congrArg ab (QDB (QJG hb10) (by have h:=hc;rw[AI (d:=48) (z:=48) rfl]at h;simpa using h))) w8
 refine QJK 8 I<|Yv I<|QJL 5 I<|QI I (λ_ _ f _=>vj f hl) λ_=>wQ I<|QY ?_
 exact QS () I (wN I) (congrArg ab (QEV (List.length_pos_iff.2 (by simpa using hb6)) (by have h:=QJH hb10;omega))) w8
def Uy(s:List UInt8):Int:=if s=[48]then 0 else if ar s [45]=true then -1 else 1
def QBJ(s:List UInt8):List UInt8:=if Uy s<0 then s.drop 1 else if Uy s=0 then s else 45::s
def QDI(s:List UInt8):List UInt8:=if Uy s<0 then s.drop 1 else s
def numOf(s:List UInt8):List UInt8:=s.take (ahead Zx s)
def cw(s:List UInt8):List UInt8:=if ahead Zx s=s.length then[49]else s.drop (ahead Zx s+1)
def Ep(p:UInt8->Bool)(s:List UInt8):ahead p s<=s.length:=(List.takeWhile_sublist _).length_le
theorem EE(h:0<s.length):ar s [45]=(s[0]==45):=by
 cases s with
 |nil=>simp at h
 |cons c r =>
  have e:ar (c::r) [45]=(45==c):=by simp[ar,eE]
  rw[e,ae];simp only[List.getElem_cons_zero,beq_iff_eq];exact⟨λh=>h.symm,λh=>h.symm⟩
def Om(h:Uy s<0):0<s.length:=by
 cases s with
 |nil=>exact absurd h wu
 |cons=>simp
theorem jy(hF:Fits F w):Qg prog 42 [tx s] w F (.int .i64 (Uy s)):=by
 refine QV.intro (G:=λ_=>True) func42 rfl wy rfl rfl hF w8<|QI7<|wQ rfl<|QG<|wR rfl<|QA (K6 rfl rfl)<|QE<|QC ?_
 refine QR I (λhc4=>?_) λhc4=>?_
 ·refine wA 6 I ?_;exact QS () I (wN I) (congrArg (af .i64) (by unfold Uy;rw[if_pos (by simpa using hc4)])) w8
 refine QJL 6 I<|QA (Xj I Mu)<|wB 2 I ?_
 refine Ql (t:=8) rfl (λhb8=>?_) λhb8=>?_
 ·refine wB 3 I<|QA (Hj (i:=0) rfl rfl Mu (wk<|QJG hb8))<|QJK 5 I ?_
  refine QR I (λhc=>?_) λhc=>?_
  ·refine wA 6 I ?_;exact QS () I (wN I) (congrArg (af .i64) (by unfold Uy;rw[if_neg (by simpa using hc4),if_pos];rw[EE (wk<|QJG hb8),<-AI (z:=45) rfl];exact hc)) w8
  refine QJL 8 I ?_;exact QS () I (wN I) (congrArg (af .i64) (by unfold Uy;rw[if_neg (by simpa using hc4),if_neg];rw[EE (wk<|QJG hb8),<-AI (z:=45) rfl,hc];decide)) w8
 refine QJK 6 I<|Yv I<|QJL 8 I ?_
 exact QS () I (wN I) (congrArg (af .i64) (by have h0:s=[]:=(by have:=hb8;simp at this;exact this);subst h0;rfl)) w8
theorem QGY(hF:Fits F w)(hl:s.length<=1000000000):Qg prog 51 [tx s] w F (tx (QBJ s)):=by
 refine QV.intro (G:=λ_=>True) func51 rfl wy rfl rfl hF w8<|QI7<|wQ rfl<|QG<|wR rfl<|QI rfl (λ_ _ f _=>jy f ) λ_=>QA (QT rfl rfl rfl)<|QE<|QC ?_
 refine QR I (λhc5=>?_) λhc5=>?_
 ·refine wR I<|QA (GC 1 rfl rfl Mu I (Om (QJG hc5)))<|wQ I<|QY ?_
  exact QS () I (wN I) (congrArg tx (by unfold QBJ;rw[if_pos (QJG hc5)])) w8
 refine QJL 6 I<|QI I (λ_ _ f k=>jy f ) λ_=>QJK 3 I ?_
 refine QR I (λhc10=>?_) λhc10=>?_
 ·refine wA 7 I ?_;exact QS () I (wN I) (congrArg tx (by unfold QBJ;rw[if_neg (QJH hc5),if_pos (by simpa using hc10)])) w8
 refine QJL 5 I<|QA (Yi I I w6)<|wQ I<|QY ?_
 exact QS () I (wN I) (congrArg tx (by unfold QBJ;rw[if_neg (QJH hc5),if_neg (by simpa using hc10)];rfl)) w8
theorem QD1(hF:Fits F w):Qg prog 39 [tx s] w F (tx (QDI s)):=by
 refine QV.intro (G:=λ_=>True) func39 rfl wy rfl rfl hF w8<|QI7<|wQ rfl<|QG<|wR rfl<|QI rfl (λ_ _ f _=>jy f ) λ_=>QA (QT rfl rfl rfl)<|QE<|QC ?_
 refine QR I (λhc=>?_) λhc=>?_
 ·refine wR I<|QA (GC 1 rfl rfl Mu I (Om (QJG hc)))<|wQ I<|QY ?_
  exact QS () I (wN I) (congrArg tx (by unfold QDI;rw[if_pos (QJG hc)])) w8
 refine QJL 9 I ?_;exact QS () I (wN I) (congrArg tx (by unfold QDI;rw[if_neg (QJH hc)])) w8
theorem QFN(hF:Fits F w):Qg prog 29 [tx s] w F (.bool (s==[48])):=by
 refine QV.intro (G:=λ_=>True) func29 rfl wy rfl rfl hF w8<|QI7<|wQ rfl<|wR rfl<|QA (K6 rfl rfl)<|wQ rfl<|QY ?_
 exact QS () I (wN I) (rfl) w8
theorem QDu(hF:Fits F w)(hl:s.length<=1000000000):Qg prog 40 [tx s] w F (tx (numOf s)):=by
 refine QV.intro (G:=λ_=>True) func40 rfl wy rfl rfl hF w8<|QI7<|wQ rfl<|wR rfl<|QH0 rfl<|QI rfl (λ_ _ f _=>Sx f (bh hl wu)) λ_=>QA (Mn (ahead Zx s) rfl rfl Mu rfl (Ep _ _))<|wQ rfl<|QY ?_
 exact QS () I (wN I) (rfl) w8
theorem QDz(hF:Fits F w)(hl:s.length<=1000000000):Qg prog 41 [tx s] w F (tx (cw s)):=by
 refine QV.intro (G:=λ_=>True) func41 rfl wy rfl rfl hF w8<|QI7<|wQ rfl<|wR rfl<|QI rfl (λ_ _ f _=>Sx f (bh hl wu)) λ_=>wQ rfl<|QG<|wR rfl<|QH0 rfl<|QA (Xj rfl Mu)<|QA (QT rfl rfl rfl)<|QE<|QC ?_
 refine QR I (λhc=>?_) λhc=>?_
 ·refine wA 6 I ?_;exact QS () I (wN I) (congrArg tx (by unfold cw;rw[if_pos (by simp at hc;omega)])) w8
 refine QJL 6 I<|QA (Qw I I (wk<|Ep Zx s))<|QA (GC (ahead Zx s+1) rfl rfl Mu I (by have:=Ep Zx s;simp at hc;omega))<|wQ I<|QY ?_
 exact QS () I (wN I) (congrArg tx (by unfold cw;rw[if_neg (by simp at hc;omega)])) w8
def je(hi:i<s.length):Jc (s.take (i+1))=Jc (s.take i)*10+(s[i].toNat-48):=by
 rw[aT hi,Kb,Wc];simp
def QG8(hi:i<s.length)(h:ZG s=true):48<=s[i].toNat/\s[i].toNat<=57:=by
 rw[ZG,fa]at h;exact Ki.1 (h _ (List.getElem_mem hi))
theorem Ow(hF:Fits F w)(hs:ZG s=true)(hl:s.length<=18):Qg prog 117 [tx s] w F (.int .i64 (Jc s)):=by
 refine QV.intro (G:=λ_=>True) func117 rfl wy rfl rfl hF w8<|QI7<|wQ rfl<|QI7<|wQ rfl<|QG<|QI7<|wQ rfl<|QW<|YA (ι:=Uw s.length λ_=>True) (λi=>[(0,tx s),(3,.int .i64 (Jc (s.take i.i))),(4,.int .i64 i.i)]) (λ_=>[]) (λ_ _=>True) (λi=>s.length-i.i) ⟨0,aJ _,trivial⟩ wU QIM w8 λi=>?_
 have hle:=i.le;have hlt:=HK (Md hs i.i);have hp18:(10:Nat)^(s.take i.i).length<=10^18:=aV wu w6;refine wA 5 I<|QA (Xj I Zk)<|QJK 3 I ?_
 refine QR I (λhc=>?_) λhc=>?_
 ·have hi:i.i<s.length:=by simp at hc;omega
  have hd:=QG8 hi hs;have hp17:(10:Nat)^(s.take i.i).length<=10^17:=aV wu w6;refine QJL 6 I<|QA (M0 I I O)<|wB 2 I<|QA (Hj I I Zk (hi))<|QA (qF I QGI k_3 O)<|QA (Qw I I O)<|QA (X3 I I O)<|wB 2 I<|Qk<|QJM 3 I<|QA (Qw I I O)<|wB 2 I ?_
  exact Qm (⟨i.i+1,O,trivial⟩:Uw s.length λ_=>True) (by show s.length-(i.i+1)<s.length-i.i;omega) ⟨rfl,(by show some (af .i64 _)=some (af .i64 _);rw[je hi];congr 2;omega),rfl,trivial⟩ QIM w8
 refine Qz ?_
 repeat first|refine QZ ?_|refine QQ wy ?_
 refine Qa<|QJM 8 I ?_
 exact QS () I (wN I) (congrArg (af .i64) (by rw[aq (by simp at hc;omega)])) w8
structure QH3(a b:Nat) where
 x:Nat
 y:Nat
 h:bw x y=bw a b
 hx:x<=9223372036854775807
 hy:y<=9223372036854775807
theorem QGa{a b:Nat}(hF:Fits F w)(ha:a<=9223372036854775807)(hb:b<=9223372036854775807):Qg prog 58 [.int .i64 (a:Int),.int .i64 (b:Int)] w F (.int .i64 (bw a b:Nat)):=by
 refine QV.intro (G:=λ_=>True) func58 rfl wy rfl rfl hF w8<|QI7<|wQ rfl<|QG<|QW<|YA (ι:=QH3 a b) (λi=>[(0,.int .i64 (i.x:Int)),(1,.int .i64 (i.y:Int))]) (λ_=>[]) (λ_ _=>True) (λi=>i.y) ⟨a,b,rfl,ha,hb⟩ wT QIM w8 λi=>?_
 have hx:=i.hx;have hy:=i.hy;refine wA 7 I ?_;refine QR I (λhc=>?_) λhc=>?_
 ·have hpos:0<i.y:=by simp at hc;omega
  refine QJL 3 I<|JH QIM mixed wm<|QK (QD I)<|QK (QD I)<|QK (QD I)<|QK (Hi I I O O)<|QK (QF I)<|QK (QF I)<|Q7<|Qk ?_
  exact Qm (⟨i.y,i.x%i.y,by rw[<-i.h,fy i.x,Nat.gcd_rec i.y i.x,fy],hy,wk<|eO i.x hpos⟩:QH3 a b) (eO i.x hpos) wT QIM w8
 refine Qz ?_
 repeat first|refine QZ ?_|refine QQ wy ?_
 refine Qa<|QJM 8 I ?_
 exact QS () I (wN I) (congrArg (λn:Nat=>af .i64 (n:Int)) (by have h0:i.y=0:=(by simp at hc;omega);rw[<-i.h,h0,Nat.gcd_zero_right])) w8
def qw(n least:Nat):List UInt8:=Hv least (hd n)
def QCf(h:0<n):hd n=hd (n/10)++[bS (48+n%10)]:=by
 unfold hd;rw[if_neg O];by_cases h0:n/10=0
 ·rw[if_pos h0,aj,dif_pos O,Nat.mod_eq_of_lt O];rfl
 rw[if_neg h0,fG n,dif_neg O]
def QBn(h:n<=9223372036854775807):(hd n).length<=20:=by
 unfold hd;split
 ·simp
 rw[bm];exact Kg O wu
structure QDP(n least:Nat) where
 m:Nat
 t:List UInt8
 le:m<=n
 h:Hv (least-t.length) (hd m)++t=qw n least
 tl:t.length+(hd m).length<=least+20
def QDg{d:Nat}(h:d<10):(([48,49,50,51,52,53,54,55,56,57]:List UInt8).take (d+1)).drop d=[bS (48+d)]:=by
 match d,h with
 |0,_=>rfl
 |1,_=>rfl
 |2,_=>rfl
 |3,_=>rfl
 |4,_=>rfl
 |5,_=>rfl
 |6,_=>rfl
 |7,_=>rfl
 |8,_=>rfl
 |9,_=>rfl
def QEd{least:Nat}{t:List UInt8}(h:0<n\/t.length<least):Hv (least-(bS (48+n%10)::t).length) (hd (n/10))++(bS (48+n%10)::t)=Hv (least-t.length) (hd n)++t:=by
 rcases aB n with h0 | h0
 ·subst h0;have hlt:t.length<least:=O;have e:least-t.length=(least-(t.length+1))+1:=O;simp only[hd,Hv,aN,if_true,bW,Nat.sub_zero,fc,Nat.zero_div,Nat.zero_mod];rw[e,Ga,Ga,List.replicate_succ',List.append_assoc];rfl
 rw[QCf h0];unfold Hv;simp only[aC,aN,bW];rw[show least-(t.length+1)-(hd (n/10)).length=least-t.length-((hd (n/10)).length+(0+1)) by omega];simp
def QDP.next{n least:Nat}(i:QDP n least)(h:0<i.m\/i.t.length<least):QDP n least :=
 ⟨i.m/10,bS (48+i.m%10)::i.t,wk i.le,by rw[QEd h];exact i.h,by
  have:=i.tl;rcases aB i.m with h0 | h0
  ·have e:hd (i.m/10)=[]:=by rw[h0];rfl
   rw[e];have e2:hd i.m=[]:=by rw[h0];rfl
   rw[e2]at this;simp at this ⊢;omega
  have e:=congrArg eC (QCf h0);simp at e ⊢;omega⟩
theorem QAt{n least:Nat}(hF:Fits F w)(hn:n<=9223372036854775807)(hl:least<=1000):Qg prog 59 [.int .i64 (n:Int),.int .i64 (least:Int)] w F (tx (qw n least)):=by
 refine QV.intro (G:=λ_=>True) func59 rfl wy rfl rfl hF w8<|QI7<|wQ rfl<|QI7<|wQ rfl<|QG<|QW<|YA (ι:=QDP n least) (λi=>[(0,.int .i64 (i.m:Int)),(1,.int .i64 (least:Int)),(5,tx i.t)]) (λ_=>[]) (λ_ _=>True) (λi=>i.m+(least-i.t.length)) ⟨n,[],ax _,by unfold qw;simp,by have:=QBn hn;simp;omega⟩ wU QIM w8 λi=>?_
 have hle:=i.le;have htl:=i.tl;refine wA 6 I ?_;refine Ql (t:=8) rfl (λhb8=>?_) λhb8=>?_
 ·refine QJK 7 I<|Ut I<|QJL 6 I<|QA (Hi I I O O)<|QH0 I<|QA (Hi I I O O)<|QA (Qw I I O)<|QA (RD (i.m%10) (i.m%10+1) rfl rfl rfl Zk (.inr rfl) (.inr rfl) O (by show i.m%10+1<=10;omega)) ?_
  rw[QDg (eO _ wu)];refine QH0 I<|QA (Yi I I w6)<|QJK 5 I<|QA (SX I I O O O)<|wB 2 I<|Qk ?_
  exact Qm (QDP.next i (Or.inl (wk<|QJG hb8):0<i.m\/i.t.length<least)) (by show i.m/10+(least-(i.t.length+1))<i.m+(least-i.t.length);rcases(Or.inl (wk<|QJG hb8):0<i.m\/i.t.length<least)with g | g<;>omega) wU QIM w8
 refine wB 3 I<|QA (Xj I Zk)<|QJK 7 I ?_
 refine QR I (λhc=>?_) λhc=>?_
 ·refine QJL 6 I<|QA (Hi I I O O)<|QH0 I<|QA (Hi I I O O)<|QA (Qw I I O)<|QA (RD (i.m%10) (i.m%10+1) rfl rfl rfl Zk (.inr rfl) (.inr rfl) O (by show i.m%10+1<=10;omega)) ?_
  rw[QDg (eO _ wu)];refine QH0 I<|QA (Yi I I w6)<|QJK 5 I<|QA (SX I I O O O)<|wB 2 I<|Qk ?_
  exact Qm (QDP.next i (Or.inr (wk<|QJG hc):0<i.m\/i.t.length<least)) (by show i.m/10+(least-(i.t.length+1))<i.m+(least-i.t.length);rcases(Or.inr (wk<|QJG hc):0<i.m\/i.t.length<least)with g | g<;>omega) wU QIM w8
 refine Qz ?_
 repeat first|refine QZ ?_|refine QQ wy ?_
 refine Qa<|QJM 8 I ?_
 exact QS () I (wN I) (congrArg tx (by have h1:=QJH hb8;have h2:=QJH hc;have h0:i.m=0:=O;rw[<-i.h,h0];simp[hd,Hv,show least-i.t.length=0 by omega,Lib.repeatL])) w8
theorem Qx.take{q:Option Addr}(h:Qx F q n 1 (l.map Jr))(hl:l.length=n)(hk:k<=n):Qx F q k 1 ((l.take k).map Jr):=by
 refine⟨w6,λh0=>?_⟩;obtain⟨b,off,arr,T,e1,e2,e3⟩:=h.2 O;refine⟨b,off,arr,T,e1,e2,λj u hu=>e3 j u ?_⟩;rw[List.map_take]at hu;have hj:j<k:=by
  rcases aW j k with g | g
  ·exact g
  rw[eV w6]at hu;cases hu
 rw[List.getElem?_take_of_lt hj]at hu;exact hu
def QAa(hk:k<l.length)(h:Je l=Je (l.take (k+1)))(h0:l[k]=0):Je l=Je (l.take k):=by
 rw[h,aT hk,h0,Kt]
def QAZ(hk:k<l.length)(h:Je l=Je (l.take (k+1)))(h0:l[k]≠0):Je l=l.take (k+1):=by
 rw[h,aT hk,H6 _ h0]
structure QGE(l:List Int) where
 k:Nat
 le:k<=l.length
 h:Je l=Je (l.take k)
theorem Tw{r:Sr}(hF:Fits F w)(hR:XF F r l)(hl:l.length<=1000000000):QV prog 191 [r.v] w F (λ(_:Unit)=>.slice r.q (Je l).length r.cap) (λ_ F=>XF F ⟨r.q,(Je l).length,r.cap⟩ (Je l)):=by
 obtain⟨q,n,c⟩:=r;have hn:=hR.2.1;have hcap:=hR.2.2;dsimp only at hn hcap;refine QV.intro (G:=λF=>XF F ⟨q,n,c⟩ l) func191 rfl wy rfl rfl hF (λF' hF'=>hR.le hF')<|QI7<|wQ rfl<|QG<|QW<|YA (ι:=QGE l) (λi=>[(0,.slice q i.k c)]) (λ_=>[]) (λ_ F=>XF F ⟨q,n,c⟩ l) (λi=>i.k) ⟨n,O,by rw[<-hn,aL]⟩ wS QIM w9 λi=>?_
 have hle:=i.le;refine wA 4 I<|QA (Qh I JC)<|wB 2 I ?_
 refine Ql (t:=6) rfl (λhb6=>?_) λhb6=>?_
 ·have hk0:0<i.k:=wk<|QJG hb6
  have hk1:i.k-1<l.length:=O;refine JM _ (λ_ _ f h=>h.1.ptr (by dsimp only;omega)) (λhq=>?_);obtain⟨qb,qo,hq⟩:=hq;dsimp only at hq;subst hq;refine wB 5 I<|QA (Qh I JC)<|QM I I<|QA (X3 I I O)<|QM I I<|QA (JJ (i:=i.k-1) rfl wM JC JO O)<|QM I I<|QA (Ym (n:=n) (sz:=1) (cs:=l.map Jr) (u:=.int .i64 l[i.k-1]) I JO tA O (by simp[hk1,Jr]))<|QJK 5 I ?_
  refine QR I (λhc=>?_) λhc=>?_
  ·refine QJL 6 I<|QA (Qh I JC)<|QA (X3 I I O)<|QA (NV (i.k-1) rfl rfl wM JC JO O)<|wB 2 I<|Qk ?_
   exact Qm (⟨i.k-1,O,QAa hk1 (by rw[show i.k-1+1=i.k by omega];exact i.h) (by simpa using hc)⟩:QGE l) (by show i.k-1<i.k;omega) wS QIM w9
  refine Qz ?_
  repeat first|refine QZ ?_|refine QQ wy ?_
  refine Qa<|QJM 8 I ?_
  exact QS () I (wN I) (congrArg (λk:Nat=>fl _ k c) (by have e:=QAZ hk1 (by rw[show i.k-1+1=i.k by omega];exact i.h) (by simpa using hc);rw[show i.k-1+1=i.k by omega]at e;rw[e];simp;omega)) λF h=>by have hz:(Je l).length<=l.length:=VX l;exact⟨(by have:=h.1.take hn (show(Je l).length<=n by omega);rw[<-Pr]at this;exact this),rfl,(by show(Je l).length<=c;omega)⟩
 refine QJK 10 I<|Yv I<|Qz ?_
 repeat first|refine QZ ?_|refine QQ wy ?_
 refine Qa<|QJM 8 I ?_
 exact QS () I (wN I) (congrArg (λk:Nat=>fl _ k c) (by have h0:i.k=0:=(wk<|QJH hb6);have e:=i.h;rw[h0]at e;simp[Ik]at e;rw[e,h0];rfl)) λF h=>by have hz:(Je l).length<=l.length:=VX l;exact⟨(by have:=h.1.take hn (show(Je l).length<=n by omega);rw[<-Pr]at this;exact this),rfl,(by show(Je l).length<=c;omega)⟩
theorem zG{r:Sr}{i:Nat}(hF:Fits F w)(hR:XF F r l)(hi:i<=1000000000):Qg prog 193 [r.v,.int .i64 (i:Int)] w F (.int .i64 (l.getD i 0)):=by
 obtain⟨q,n,c⟩:=r;have hn:=hR.2.1;dsimp only at hn;refine QV.intro (G:=λF=>XF F ⟨q,n,c⟩ l) func193 rfl wy rfl rfl hF (λF' hF'=>hR.le hF') ?_;dsimp only[Sr.v];refine wA 10 I<|QA (Qh I JC)<|QJK 3 I ?_
 refine QR I (λhc=>?_) λhc=>?_
 ·have hk1:i<l.length:=wk<|QJG hc
  refine XS _ (λ_ _ f h=>h.1.ptr (by dsimp only;omega)) (λhq=>?_);obtain⟨qb,qo,hq⟩:=hq;dsimp only at hq;subst hq;refine wA 4 I<|QA (JJ (i:=i) rfl rfl JC JO O)<|QA (Ym (n:=n) (sz:=1) (cs:=l.map Jr) (u:=.int .i64 l[i]) I JO tA O (by simp[hk1,Jr]))<|wQ I<|QY ?_
  exact QS () I (wN I) (congrArg (af .i64) (by simp[hk1])) w8
 refine QJL 8 I ?_;exact QS () I (wN I) (congrArg (af .i64) (by have:=QJH hc;simp[show l.length<=i by omega])) w8
structure QH6(a b:List Int) where
 i:Nat
 out:List Int
 carry:Int
 v:Value
 ob:List (Nat×Obj)
 le:i<=max a.length b.length+1
 len:out.length=i
 dg:DG B9 out
 c0:0<=carry
 c1:carry<=1
 cz:max a.length b.length<i->carry=0
 h:dv B9 out+B9^i*carry=dv B9 (a.take i)+dv B9 (b.take i)
 hr:Q9 3 1 v out.length (out.map Jr) ob
def N6(B:Int)(l:List Int)(n:Nat):dv B (l.take (n+1))=dv B (l.take n)+B^n*l.getD n 0:=by
 rcases aW n l.length with h | h
 ·rw[Bn B l n h];simp[h]
 rw[aq O,aq h];simp[h]
def j5(h:DG B9 l)(i:Nat):0<=l.getD i 0/\l.getD i 0<1000000000:=h.getD wu i
def vw(h:l.length<=i):l.getD i 0=0:=by simp[h]
def QHs{s:Int}(hl:out.length=i)(h:dv B9 out+B9^i*c=dv B9 (a.take i)+dv B9 (b.take i))(hs:s=a.getD i 0+b.getD i 0+c):
  dv B9 (out++[s%B9])+B9^(i+1)*(s/B9)=dv B9 (a.take (i+1))+dv B9 (b.take (i+1)):=by
 rw[X6,hl,N6,N6,aQ,bU];have e:s%B9+B9*(s/B9)=s:=bH s B9;have e2:B9^i*(s%B9)+B9^i*(B9*(s/B9))=B9^i*s:=by rw[<-bM,e]
 rw[fk,e2,hs,bM,bM];omega
abbrev jT(P:Program)(f:FuncId)(args:List Value)(w:World)(F:Gs)(p:List Int->Prop):Prop:=QV P f args w F (λ(c:Sr×List Int)=>.slice c.1.q c.1.n c.1.cap) λc F=>XF F c.1 c.2/\DG B9 c.2/\p c.2
theorem dE(hF:Fits F w)(hA:XF F ra a)(hB:XF F rb b)(da:DG B9 a)(db:DG B9 b)(la:a.length<=100000000)(lb:b.length<=100000000):
  jT prog 123 [ra.v,rb.v] w F (λl=>dv B9 l=dv B9 a+dv B9 b/\l.length<=max a.length b.length+1):=by
 have na:=hA.2.1;have nb:=hB.2.1;have h9:B9=1000000000:=rfl;refine QV.intro (G:=λF=>XF F ra a/\XF F rb b) func123 rfl wy rfl rfl hF (λF' hF'=>⟨hA.le hF',hB.le hF'⟩)<|QI7<|wQ rfl<|QI7<|wQ rfl<|QI7<|wQ rfl<|QG<|QI7<|wQ rfl<|QW ?_
 refine YA (ι:=QH6 a b) (λi=>[(0,ra.v),(1,rb.v),(5,i.v),(6,.int .i64 i.carry),(7,.int .i64 (i.i:Int))]) (λi=>i.ob) (λ_ F=>XF F ra a/\XF F rb b) (λi=>max a.length b.length+1-i.i)
  ⟨0,[],0,.slice none 0 0,[],aJ _,rfl,DG.nil _,wu,wu,λ_=>rfl,wz,.nil⟩ wW tD w9 λi=>?_
 have hle:=i.le;have hlen:=i.len;have hc0:=i.c0;have hc1:=i.c1;refine QG ?_;refine Et 22 (.bool (decide ((i.i:Int)<ra.n)||decide ((i.i:Int)<rb.n)||decide (i.carry>0))) ?_ ?_
 ·refine wA 3 I<|QA (Qh I JC)<|wB 2 I ?_
  refine Ql (t:=13) rfl (λhb13=>?_) λhb13=>?_
  ·refine wB 10 I ?_;exact ZS (exd 15 rfl rfl) (congrArg (λb=>some (ab b)) (by rw[ae];simp_all;try omega)) QIM w9
  refine wB 5 I<|QA (Qh I JC)<|wB 4 I ?_
  refine Ql (t:=19) rfl (λhb19=>?_) λhb19=>?_
  ·refine wB 4 I ?_;exact ZS (exd 16 rfl rfl) (congrArg (λb=>some (ab b)) (by rw[ae];simp_all;try omega)) QIM w9
  refine wB 6 I ?_;exact ZS (exd 16 rfl rfl) (congrArg (λb=>some (ab b)) (by rw[ae];simp_all;try omega)) QIM w9
 refine QR I (λhc=>?_) λhc=>?_
 ·have hi:i.i<=max a.length b.length:=by
   rcases aW (max a.length b.length) i.i with g | g
   ·have:=i.cz g;simp at hc;omega
   exact g
  have b1:=j5 da i.i;have b2:=j5 db i.i;refine QJL 8 I<|QI I (λ_ _ f k=>zG (r:=ra) (l:=a) f k.1 O) λ_=>wB 2 I<|QI I (λ_ _ f k=>zG (r:=rb) (l:=b) f k.1.2 O) λ_=>QA (Qw I I O)<|QH0 I<|QA (Qw I I O)<|QJK 7 I<|QA (Hi I I O O)<|Qb I (Q4 JC) JO SP I I λb37=>?_
  refine KB (bs1:=[]) (ob:=i.ob) (k:=1) (sz:=1) (news:=[.int .i64 ((a.getD i.i 0+b.getD i.i 0+i.carry)%1000000000)]) I I JC JO SP I OM i.hr (Src.row (off:=0) tB (λj v hv=>by rw[aU];show([af .i64 ((a.getD i.i 0+b.getD i.i 0+i.carry)%1000000000)].toArray)[j]?=some v;rw[aF];exact hv) rfl) O O (λu hu=>by rw[List.mem_singleton.1 hu];rfl) (λv' ob' hr'=>?_);refine QJK 5 I<|QA (SX I I O O O)<|wB 2 I<|Qk<|QJM 3 I<|QA (Qw I I O)<|wB 2 I ?_
  exact Qm (⟨i.i+1,i.out++[(a.getD i.i 0+b.getD i.i 0+i.carry)%B9],(a.getD i.i 0+b.getD i.i 0+i.carry)/B9,v',ob',O,by simp[hlen],i.dg.append (DG.cons (by rw[h9];omega) (by rw[h9];omega) (DG.nil _)),by rw[h9];omega,by rw[h9];omega,λg=>by rw[vw (l:=a) O,vw (l:=b) O,h9];omega,QHs hlen i.h I,by simpa[Jr,h9]using hr'⟩:QH6 a b) (by show max a.length b.length+1-(i.i+1)<max a.length b.length+1-i.i;omega) wW QIM λF h=>h.1.1.1
 refine Qz ?_
 repeat first|refine QZ ?_|refine QQ wy ?_
 refine Qa<|QJM 8 I ?_
 obtain⟨r,hv,hrn,hrc,hfix⟩:=Q9.fix (w0:=w) (F0:=F) (bs1:=[]) (G:=λF=>XF F ra a/\XF F rb b) i.hr;refine QCl hfix ?_;have hex:max a.length b.length<=i.i/\i.carry=0:=by simp at hc;omega
 exact QS ((r,i.out):Sr×List Int) rfl (wN I) hv.symm λF h=>⟨⟨by rw[hrn];exact h.2,hrn.symm,by show r.n<=r.cap;omega⟩,i.dg,by have e:=i.h;rw[hex.2,aq O,aq O]at e;simpa using e,by show i.out.length<=_;omega⟩
structure QH5(a b:List Int) where
 k:Nat
 le:k<=a.length
 h:a.drop k=b.drop k
def QDD(ha:k<a.length)(hb:k<b.length)(h:a.drop (k+1)=b.drop (k+1))(e:a[k]=b[k]):a.drop k=b.drop k:=by
 rw[aS ha,aS hb,h,e]
theorem S2(hF:Fits F w)(hA:XF F ra a)(hB:XF F rb b)(da:DG B9 a)(db:DG B9 b)(za:NZ a)(zb:NZ b)(la:a.length<=100000000)(lb:b.length<=100000000):
  Qg prog 124 [ra.v,rb.v] w F (.int .i64 (YE (dv B9 a) (dv B9 b))):=by
 have h91:(1:Int)<B9:=wu;have h90:(0:Int)<B9:=wu;obtain⟨q,n,c⟩:=ra;obtain⟨q',n',c'⟩:=rb;have na:=hA.2.1;have nb:=hB.2.1;dsimp only at na nb;refine QV.intro (G:=λF=>XF F ⟨q,n,c⟩ a/\XF F ⟨q',n',c'⟩ b) func124 rfl wy rfl rfl hF (λF' hF'=>⟨hA.le hF',hB.le hF'⟩) ?_;dsimp only[Sr.v];refine wA 9 I<|QA (Qh I JC)<|QH0 I<|QA (Qh I JC)<|QJK 3 I ?_
 refine QR I (λhc=>?_) λhc=>?_
 ·refine wA 4 I<|QA (Qh I JC)<|QH0 I<|QA (Qh I JC)<|QJK 3 I ?_
  refine QR I (λhc=>?_) λhc2=>?_
  ·refine wA 6 I ?_;exact QS () I (wN I) (congrArg (af .i64) (Gz (ZQ h91 da db zb (by simp at hc;omega)))) w8
  refine QJL 8 I ?_;exact QS () I (wN I) (congrArg (af .i64) (Ej (ZQ h91 db da za (by simp at hc hc2;omega)))) w8
 refine QJL 6 I<|QA (Qh I JC)<|QA (X3 I I O)<|QJK 3 I ?_
 have hab:n=n':=by simp at hc;omega
 refine QW<|YA (ι:=QH5 a b) (λi=>[(0,.slice q n c),(1,.slice q' n' c'),(5,.int .i64 ((i.k:Int)-1))]) (λ_=>[]) (λ_ F=>XF F ⟨q,n,c⟩ a/\XF F ⟨q',n',c'⟩ b) (λi=>i.k) ⟨n,O,by rw[bG O,bG O]⟩ wU QIM w9 λi=>?_
 have hle:=i.le;refine wA 7 I ?_;refine QR I (λhc=>?_) λhc=>?_
 ·refine QJL 6 I ?_;have hk0:0<i.k:=wk<|QJG hc
  have hka:i.k-1<a.length:=O;have hkb:i.k-1<b.length:=O;refine XS _ (λ_ _ f h=>h.1.1.ptr (by dsimp only;omega)) (λhq=>?_);obtain⟨qb,qo,hq⟩:=hq;dsimp only at hq;subst hq;refine XS _ (λ_ _ f h=>h.2.1.ptr (by dsimp only;omega)) (λhq=>?_);obtain⟨qb',qo',hq⟩:=hq;dsimp only at hq;subst hq;refine JH QIM mixed wm<|QK (QD I)<|QK (QD I)<|QK (JJ (i:=i.k-1) rfl wM JC JO O)<|QK (Ym (n:=n) (sz:=1) (cs:=a.map Jr) (u:=.int .i64 a[i.k-1]) I JO (λF h=>h.1.1) O (by simp[hka,Jr]))<|QK (QD I)<|QK (QD I)<|QK (JJ (i:=i.k-1) rfl wM JC JO O)<|QK (Ym (n:=n') (sz:=1) (cs:=b.map Jr) (u:=.int .i64 b[i.k-1]) I JO (λF h=>h.2.1) O (by simp[hkb,Jr]))<|QK (QT I I I)<|Q7<|QC ?_
  refine QR I (λhc=>?_) λhca=>?_
  ·refine wA 6 I ?_
   repeat first|refine Q6 ?_|refine Qy ?_
   exact QS () I (wN I) (congrArg (af .i64) (Gz (OJ h90 da db O (i.k-1) hka (by rw[show i.k-1+1=i.k by omega];exact i.h) (QJG hc)))) w8
  refine QJL 3 I<|JH QIM mixed wm<|QK (QD I)<|QK (QD I)<|QK (JJ (i:=i.k-1) rfl wM JC JO O)<|QK (Ym (n:=n) (sz:=1) (cs:=a.map Jr) (u:=.int .i64 a[i.k-1]) I JO (λF h=>h.1.1) O (by simp[hka,Jr]))<|QK (QD I)<|QK (QD I)<|QK (JJ (i:=i.k-1) rfl wM JC JO O)<|QK (Ym (n:=n') (sz:=1) (cs:=b.map Jr) (u:=.int .i64 b[i.k-1]) I JO (λF h=>h.2.1) O (by simp[hkb,Jr]))<|QK (QT I I I)<|Q7<|QC ?_
  refine QR I (λhc=>?_) λhcb=>?_
  ·refine wA 6 I ?_
   repeat first|refine Q6 ?_|refine Qy ?_
   exact QS () I (wN I) (congrArg (af .i64) (Ej (OJ h90 db da O (i.k-1) hkb (by rw[show i.k-1+1=i.k by omega];exact i.h.symm) (QJG hc)))) w8
  refine QO<|Qk<|QJM 3 I<|QA (X3 I I O)<|wB 2 I ?_
  exact Qm (⟨i.k-1,O,QDD hka hkb (by rw[show i.k-1+1=i.k by omega];exact i.h) (by simp at hca hcb;omega)⟩:QH5 a b) (by show i.k-1<i.k;omega) ⟨rfl,rfl,congrArg (λz:Int=>some (af .i64 z)) (by dsimp only;omega),trivial⟩ QIM w9
 refine Qz ?_
 repeat first|refine QZ ?_|refine QQ wy ?_
 refine Qa<|QJM 7 I ?_
 exact QS () I (wN I) (congrArg (af .i64) (by have h0:i.k=0:=(wk<|QJH hc);have e:=i.h;rw[h0]at e;simp at e;rw[e];exact SM _)) w8
def QFy{c' d:Int}(hl:out.length=i)(h:dv B9 out+dv B9 (b.take i)=dv B9 (a.take i)+B9^i*c)(hd:d=a.getD i 0-b.getD i 0-c+B9*c'):
  dv B9 (out++[d])+dv B9 (b.take (i+1))=dv B9 (a.take (i+1))+B9^(i+1)*c':=by
 rw[X6,hl,N6,N6,aQ,bU,hd,bM,bL,bL];omega
structure QHC(a b:List Int) where
 i:Nat
 out:List Int
 borrow:Int
 v:Value
 ob:List (Nat×Obj)
 le:i<=a.length
 len:out.length=i
 dg:DG B9 out
 c0:0<=borrow
 c1:borrow<=1
 h:dv B9 out+dv B9 (b.take i)=dv B9 (a.take i)+B9^i*borrow
 hr:Q9 3 1 v out.length (out.map Jr) ob
def QFJ(da:DG B9 out)(hl:out.length=a.length)(hb:b.length<=a.length)(h:dv B9 out+dv B9 (b.take a.length)=dv B9 (a.take a.length)+B9^a.length*c)(h0:0<=c)(h1:c<=1)(hle:dv B9 b<=dv B9 a):dv B9 out=dv B9 a-dv B9 b:=by
 rw[aL,aq hb]at h;have hlt:=Km (b:=B9) wu da;rw[hl]at hlt;have hc:c=0\/c=1:=O;rcases hc with rfl | rfl
 ·rw[eB]at h;omega
 rw[eG]at h;omega
theorem Ox(hF:Fits F w)(hA:XF F ra a)(hB:XF F rb b)(da:DG B9 a)(db:DG B9 b)(la:a.length<=100000000)(lb:b.length<=a.length)(hle:dv B9 b<=dv B9 a):
  jT prog 125 [ra.v,rb.v] w F (λl=>dv B9 l=dv B9 a-dv B9 b/\NZ l/\l.length<=a.length):=by
 obtain⟨q,n,c⟩:=ra;have na:=hA.2.1;have nb:=hB.2.1;dsimp only at na;have h9:B9=1000000000:=rfl;refine QV.intro (G:=λF=>XF F ⟨q,n,c⟩ a/\XF F rb b) func125 rfl wy rfl rfl hF (λF' hF'=>⟨hA.le hF',hB.le hF'⟩) ?_;dsimp only[Sr.v];refine wA 22 I ?_;refine YA (ι:=QHC a b) (λi=>[(0,.slice q n c),(1,.slice rb.q rb.n rb.cap),(5,i.v),(6,.int .i64 i.borrow),(7,.int .i64 (i.i:Int))]) (λi=>i.ob) (λ_ F=>XF F ⟨q,n,c⟩ a/\XF F rb b) (λi=>a.length-i.i)
  ⟨0,[],0,.slice none 0 0,[],aJ _,rfl,DG.nil _,wu,wu,wz,.nil⟩ wW tD w9 λi=>?_
 have hile:=i.le;have hlen:=i.len;have hc0:=i.c0;have hc1:=i.c1;refine wA 5 I<|QA (Qh I JC)<|QJK 3 I ?_
 refine QR I (λhc=>?_) λhc=>?_
 ·have hi:i.i<n:=wk<|QJG hc
  have hia:i.i<a.length:=O;have b1:=j5 da i.i;have b2:=j5 db i.i;have e1:a[i.i]=a.getD i.i 0:=by simp[hia]
  refine XS _ (λ_ _ f h=>h.1.1.ptr (by dsimp only;omega)) (λhq=>?_);obtain⟨qb,qo,hq⟩:=hq;dsimp only at hq;subst hq;refine QJL 5 I<|JH QIM mixed wm<|QK (QD I)<|QK (QD I)<|QK (JJ (i:=i.i) rfl rfl JC JO O)<|QK (Ym (n:=n) (sz:=1) (cs:=a.map Jr) (u:=.int .i64 (a.getD i.i 0)) I JO (λF h=>h.1.1) O (by simp[hia,Jr]))<|QK (QD I)<|QK (QD I)<|QP I (λ_ _ f k=>zG (r:=rb) (l:=b) f k.2 O) λ_=>QK (X3 I I O)<|QK (QD I)<|QK (X3 I I O)<|QK (QF I)<|Q7<|QJM 7 I ?_
  refine wA 6 I ?_;refine QR I (λhs=>?_) λhs=>?_
  ·refine wR I<|QA (Qw I I O)<|wQ I<|QB<|QJK 6 I<|Qb I (Q4 JC) JO SP I I λb31=>?_
   refine KB (bs1:=[]) (ob:=i.ob) (k:=1) (sz:=1) (news:=[.int .i64 ((a.getD i.i 0-b.getD i.i 0-i.borrow)+1000000000)]) I I JC JO SP I OM i.hr (Src.row (off:=0) tB (λj v hv=>by rw[aU];show([af .i64 ((a.getD i.i 0-b.getD i.i 0-i.borrow)+1000000000)].toArray)[j]?=some v;rw[aF];exact hv) rfl) O O (λu hu=>by rw[List.mem_singleton.1 hu];rfl) (λv' ob' hr'=>?_);refine wB 2 I<|Qk<|QJM 3 I<|QA (Qw I I O)<|wB 2 I ?_
   exact Qm (⟨i.i+1,i.out++[((a.getD i.i 0-b.getD i.i 0-i.borrow)+1000000000)],1,v',ob',O,by simp[hlen],i.dg.append (DG.cons (wk<|QJG hs) (by have:=QJG hs;rw[h9];omega) (DG.nil _)),wu,wu,QFy hlen i.h (by rw[h9];omega),by simpa[Jr]using hr'⟩:QHC a b) (by show a.length-(i.i+1)<a.length-i.i;omega) wW QIM λF h=>h.1.1
  refine QJL 5 I<|Qb I (Q4 JC) JO SP I I λb31=>?_
  refine KB (bs1:=[]) (ob:=i.ob) (k:=1) (sz:=1) (news:=[.int .i64 (a.getD i.i 0-b.getD i.i 0-i.borrow)]) I I JC JO SP I OM i.hr (Src.row (off:=0) tB (λj v hv=>by rw[aU];show([af .i64 (a.getD i.i 0-b.getD i.i 0-i.borrow)].toArray)[j]?=some v;rw[aF];exact hv) rfl) O O (λu hu=>by rw[List.mem_singleton.1 hu];rfl) (λv' ob' hr'=>?_);refine wB 2 I<|Qk<|QJM 3 I<|QA (Qw I I O)<|wB 2 I ?_
  exact Qm (⟨i.i+1,i.out++[(a.getD i.i 0-b.getD i.i 0-i.borrow)],0,v',ob',O,by simp[hlen],i.dg.append (DG.cons (wk<|QJH hs) (by have:=QJH hs;rw[h9];omega) (DG.nil _)),wu,wu,QFy hlen i.h (by rw[h9];omega),by simpa[Jr]using hr'⟩:QHC a b) (by show a.length-(i.i+1)<a.length-i.i;omega) wW QIM λF h=>h.1.1
 refine Qz ?_
 repeat first|refine QZ ?_|refine QQ wy ?_
 refine Qa<|QC<|QG ?_
 obtain⟨r,hv,hrn,hrc,hfix⟩:=Q9.fix (w0:=w) (F0:=F) (bs1:=[]) (G:=λF=>XF F ⟨q,n,c⟩ a/\XF F rb b) i.hr;have hex:i.i=a.length:=wk<|QJH hc
 have hlz:=VX i.out;refine jc hfix ?_;rw[hv];refine wA 2 I<|QI I (λ_ _ f k=>Tw (r:=r) (l:=i.out) f ⟨by rw[hrn];exact k.2,hrn.symm,O⟩ O) λc34=>wQ I<|QY ?_
 exact QS ((⟨r.q,(Je i.out).length,r.cap⟩,Je i.out):Sr×List Int) rfl (wN I) rfl λF h=>⟨h.2,i.dg.Je,by show dv B9 (Je i.out)=_;rw[ZE];exact QFJ i.dg O lb (by have e:=i.h;rw[hex]at e;exact e) hc0 hc1 hle,Zv _,by show(Je i.out).length<=_;omega⟩
def IU(la lb:List Int)(i j:Nat)(x:Int)(o:List Int)(c:Int):Prop :=
 o.length=la.length+lb.length/\DG B9 o/\(∀p,i+lb.length<=p->Qn o p=0)/\(0<=c/\c<B9) /\
  dv B9 o+B9^(i+j)*c=dv B9 (la.take i)*dv B9 lb+B9^i*(x*dv B9 (lb.take j))
def XY:(0:Int)<B9:=wu
def QCe{x y o:Int}(hx:0<=x/\x<B9)(hy:0<=y/\y<B9)(ho:0<=o/\o<B9)(hc:0<=c/\c<B9):0<=x*y/\x*y<=999999998000000001/\0<=o+x*y+c/\(o+x*y+c)/B9<B9:=by
 have h9:B9=1000000000:=rfl;have h0:=bP hx.1 hy.1;have h1:x*y<=(B9-1)*(B9-1):=bQ O O hy.1 O;generalize x*y=m at *
 have q:=h9 ▸ hx.2;generalize hB:B9=B at *
 subst h9;omega
theorem IU.step{la lb:List Int}{j:Nat}{x s:Int}(h:IU la lb i j x o c)(hx:0<=x/\x<B9)(hb:DG B9 lb)(hj:j<lb.length)(hi:i<la.length)(hs:s=Qn o (i+j)+x*Qn lb j+c):
  IU la lb i (j+1) x (o.set (i+j) (s%B9)) (s/B9):=by
 obtain⟨h1,h2,h3,h4,h5⟩:=h;obtain⟨m0,m1,m2,m3⟩:=QCe hx (hb.Qn XY j) (h2.Qn XY (i+j)) h4;rw[<-hs]at m2 m3;refine⟨by simpa using h1,h2.set _ (bY _ wu) (bR _ XY),?_,⟨bA m2 wu,m3⟩,?_⟩
 ·intro p hp;rw[Ee O,if_neg O];exact h3 p hp
 rw[Rq B9 O,Hm,<-bJ,aQ];have e0:s%B9+B9*(s/B9)=s:=bH s B9;generalize s%B9=lo at *
 generalize s/B9=hi at *
 have e:B9^(i+j)*(lo+B9*hi)=B9^(i+j)*(Qn o (i+j)+x*Qn lb j+c):=by rw[e0,hs]
 rw[eF]at *
 generalize B9^i=u at *
 generalize B9^j=v at *
 generalize B9=B at *
 grind
theorem IU.row{la lb:List Int}{x:Int}(h:IU la lb i lb.length x o c)(hi:i<la.length)(hx:x=Qn la i):
  IU la lb (i+1) 0 0 (o.set (i+lb.length) c) 0:=by
 obtain⟨h1,h2,h3,h4,h5⟩:=h;refine⟨by simpa using h1,h2.set _ h4.1 h4.2,?_,⟨bT _,XY⟩,?_⟩
 ·intro p hp;rw[Ee O,if_neg O];exact h3 p O
 rw[Rq B9 O,h3 _ (ax _),Hm,<-hx];rw[aL]at h5;simp only[eB,Int.add_zero,fz,Int.sub_zero];rw[h5];generalize B9^i=u at *
 generalize B9=B at *
 grind
def IU.start(la lb:List Int):IU la lb 0 0 0 (bj (la.length+lb.length) 0) 0:=by
 refine⟨wz,DG.replicate XY _,?_,⟨bT _,XY⟩,by rw[TU];simp⟩;intro p _;unfold Qn;split<;>simp
def IU.next{la lb:List Int}(h:IU la lb i 0 0 o 0)(x:Int):IU la lb i 0 x o 0:=by
 obtain⟨h1,h2,h3,h4,h5⟩:=h;exact⟨h1,h2,h3,h4,by simpa using h5⟩
def IU.stop{la lb:List Int}(h:IU la lb i 0 0 o 0)(hi:la.length<=i):dv B9 o=dv B9 la*dv B9 lb:=by
 have e:=h.2.2.2.2;rw[aq hi]at e;simpa using e
structure QHy(a b:List Int) where
 i:Nat
 o:List Int
 le:i<=a.length
 h:IU a b i 0 0 o 0
structure QHx(a b:List Int)(i:Nat) where
 j:Nat
 o:List Int
 c:Int
 le:j<=b.length
 h:IU a b i j (Qn a i) o c
theorem Ty(hF:Fits F w)(hA:XF F ra a)(hB:XF F rb b)(da:DG B9 a)(db:DG B9 b)(la:a.length<=100000000)(lb:b.length<=100000000):
  jT prog 126 [ra.v,rb.v] w F (λl=>dv B9 l=dv B9 a*dv B9 b/\NZ l/\l.length<=a.length+b.length):=by
 obtain⟨q,n,c⟩:=ra;obtain⟨q',n',c'⟩:=rb;have na:=hA.2.1;have nb:=hB.2.1;dsimp only at na nb;have h9:B9=1000000000:=rfl;refine QV.intro (G:=λF=>XF F ⟨q,n,c⟩ a/\XF F ⟨q',n',c'⟩ b) func126 rfl wy rfl rfl hF (λF' hF'=>⟨hA.le hF',hB.le hF'⟩) ?_;dsimp only[Sr.v];refine wA 8 I<|QA (Qh I JC)<|QH0 I<|QA (Qh I JC)<|QA (Qw I I O)<|Mq (n:=n+n') (bytes:=8) rfl rfl JC JO SP I OM O O λbk=>?_
 rw[show Xb [af .i64 0] (n+n')=(bj (a.length+b.length) (0:Int)).map Jr by rw[Tj,na,nb];simp[Jr]];refine QJK 10 I ?_;refine YA (ι:=QHy a b) (λi=>[(0,.slice q n c),(1,.slice q' n' c'),(5,.slice (some ⟨bk,0,none⟩) (n+n') (n+n')),(6,.int .i64 (i.i:Int))]) (λi=>[(bk,.cells (i.o.map Jr).toArray 3 (0,0))]) (λ_ F=>XF F ⟨q,n,c⟩ a/\XF F ⟨q',n',c'⟩ b) (λi=>a.length-i.i)
  ⟨0,_,aJ _,IU.start a b⟩ wV QIM w9 λi=>?_
 have hile:=i.le;refine wA 5 I<|QA (Qh I JC)<|QJK 3 I ?_
 refine QR I (λhc=>?_) λhc=>?_
 ·have hi:i.i<n:=wk<|QJG hc
  have hia:i.i<a.length:=O;refine XS _ (λ_ _ f h=>h.1.1.ptr (by dsimp only;omega)) (λhq=>?_);obtain⟨qb,qo,hq⟩:=hq;dsimp only at hq;subst hq;refine QJL 16 I ?_;refine YA (ι:=QHx a b i.i) (λi2=>[(0,.slice (some ⟨qb,qo,none⟩) n c),(1,.slice q' n' c'),(5,.slice (some ⟨bk,0,none⟩) (n+n') (n+n')),(6,.int .i64 (i.i:Int)),(7,.int .i64 i2.c),(8,.int .i64 (i2.j:Int))]) (λi2=>[(bk,.cells (i2.o.map Jr).toArray 3 (0,0))]) (λ_ F=>XF F ⟨some ⟨qb,qo,none⟩,n,c⟩ a/\XF F ⟨q',n',c'⟩ b) (λi2=>b.length-i2.j)
   ⟨0,i.o,0,aJ _,i.h.next _⟩ wX QIM w9 λi2=>?_
  have hjle:=i2.le;have hol:i2.o.length=a.length+b.length:=i2.h.1;have hcc:=i2.h.2.2.2.1;refine wA 5 I<|QA (Qh I JC)<|QJK 3 I ?_
  refine QR I (λhc=>?_) λhc=>?_
  ·have hj:i2.j<n':=wk<|QJG hc
   have hjb:i2.j<b.length:=O;have hko:i.i+i2.j<i2.o.length:=O;have bx:=da.Qn XY i.i;have by':=db.Qn XY i2.j;have bo:=i2.h.2.1.Qn XY (i.i+i2.j);have bd:=QCe bx by' bo hcc;have hst:=i2.h.step bx db hjb hia rfl;refine XS _ (λ_ _ f h=>h.2.1.ptr (by dsimp only;omega)) (λhq=>?_);obtain⟨qb',qo',hq⟩:=hq;dsimp only at hq;subst hq;refine QJL 5 I<|JH QIM mixed wm<|QK (QD I)<|QK (QD I)<|QK (QD I)<|QK (Qw I I O)<|QK (JJ (i:=i.i+i2.j) rfl rfl JC JO O)<|QK (Vl (c:=i2.o.map Jr) (T':=3) rfl JO .here (TZ hko))<|QK (QD I)<|QK (QD I)<|QK (JJ (i:=i.i) rfl rfl JC JO O)<|QK (Ym (n:=n) (sz:=1) (cs:=a.map Jr) rfl JO (λF h=>h.1.1) O (J6 hia))<|QK (QD I)<|QK (QD I)<|QK (JJ (i:=i2.j) rfl rfl JC JO O)<|QK (Ym (n:=n') (sz:=1) (cs:=b.map Jr) rfl JO (λF h=>h.2.1) O (J6 hjb))<|QK (M0 I I O)<|QK (Qw I I O)<|QK (QD I)<|QK (Qw I I O)<|QK (QF I) ?_
   refine Q7<|QJM 6 I<|QA (Qw I I O)<|QH0 I<|QA (Hi I I O O)<|QA (JJ (i:=i.i+i2.j) rfl rfl JC JO O)<|QU (vs:=[_]) I I I JO I .here (SG hko _) wS<|QJK 4 I<|QA (SX I I O O O)<|wB 2 I<|Qk<|QJM 3 I<|QA (Qw I I O)<|QH1 I ?_
   refine QE ?_;exact Qm (⟨i2.j+1,i2.o.set (i.i+i2.j) _,_,O,hst⟩:QHx a b i.i) (by show b.length-(i2.j+1)<b.length-i2.j;omega) wX QIM w9
  have hjn:i2.j=b.length:=wk<|QJH hc
  have hko2:i.i+n'<i2.o.length:=O;have hrow:IU a b (i.i+1) 0 0 (i2.o.set (i.i+n') i2.c) 0:=by
   have e:=i2.h;rw[hjn]at e;have:=e.row hia rfl
   rwa [nb]at this
  have hz:Qn i2.o (i.i+n')=0:=i2.h.2.2.1 _ O;refine Qz ?_
  repeat first|refine QZ ?_|refine QQ wy ?_
  refine Qa<|QJM 5 I<|QA (Qh I JC)<|QA (Qw I I O)<|wB 3 I<|QA (Qh I JC)<|QA (Qw I I O)<|QA (JJ (i:=i.i+n') rfl rfl JC JO O)<|QA (Vl (c:=i2.o.map Jr) (T':=3) rfl JO .here (TZ hko2))<|QH0 I<|QA (Qw I I O)<|QA (JJ (i:=i.i+n') rfl rfl JC JO O)<|QU (vs:=[_]) I I I JO I .here (SG hko2 _) wS<|QE<|Qk<|QJM 3 I<|QA (Qw I I O) ?_
  refine wB 2 I ?_;exact Qm (⟨i.i+1,i2.o.set (i.i+n') i2.c,O,hrow⟩:QHy a b) (by show a.length-(i.i+1)<a.length-i.i;omega) wV (by rw[hz,fA];exact fJ _) w9
 refine Qz ?_
 repeat first|refine QZ ?_|refine QQ wy ?_
 refine Qa<|QC<|QG ?_
 have hex:a.length<=i.i:=wk<|QJH hc
 have hol:i.o.length=a.length+b.length:=i.h.1;have hr:Q9 3 1 (.slice (some ⟨bk,0,none⟩) (n+n') (n+n')) (n+n') (i.o.map Jr) [(bk,.cells (i.o.map Jr).toArray 3 (0,0))]:=by
  have:=Q9.some (T:=3) (sz:=1) (b:=bk) (n:=n+n') (cap:=n+n') (l:=i.o.map Jr) (rest:=[]) w6 w6 (ax _) (bh (show n+n'<=200000000 by omega) wu);simpa using this
 obtain⟨r,hv,hrn,hrc,hfix⟩:=Q9.fix (w0:=w) (F0:=F) (bs1:=[]) (G:=λF=>XF F ⟨q,n,c⟩ a/\XF F ⟨q',n',c'⟩ b) hr;have hlz:=VX i.o;refine jc hfix ?_;rw[hv];refine wA 2 I<|QI I (λ_ _ f k=>Tw (r:=r) (l:=i.o) f ⟨by rw[hrn];exact k.2,by rw[hrn];omega,O⟩ O) λc71=>wQ I<|QY ?_
 exact QS ((⟨r.q,(Je i.o).length,r.cap⟩,Je i.o):Sr×List Int) rfl (wN I) rfl λF h=>⟨h.2,i.h.2.1.Je,by show dv B9 (Je i.o)=_;rw[ZE];exact i.h.stop hex,Zv _,by show(Je i.o).length<=_;omega⟩
structure QH4(a:List Int)(d:Int) where
 k:Nat
 o:List Int
 r:Int
 le:k<=a.length
 len:o.length=a.length
 dg:DG B9 o
 r0:0<=r
 r1:r<d
 h:dv B9 (a.drop k)=d*dv B9 (o.drop k)+r
def set_drop{p:Nat}(h:p<o.length)(v:Int):(o.set p v).drop p=v::o.drop (p+1):=by
 rw[aS (by simpa using h)];congr 1
 ·simp
 rw[aY O]
def QFg{r d x:Int}(r0:0<=r)(r1:r<d)(hd:d<B9)(hx:0<=x/\x<B9):0<=r*B9+x/\0<=(r*B9+x)/d/\(r*B9+x)/d<B9/\0<=(r*B9+x)%d/\(r*B9+x)%d<d:=by
 have h0:0<=r*B9:=bP r0 wu;refine⟨O,bA O O,bZ O ?_,bY _ O,bR _ O⟩;have h1:(r+1)*B9<=d*B9:=aA O wu;rw[ek,aX]at h1;rw[aI B9 d];omega
theorem QG1{d r s:Int}{p:Nat}(hp:p<a.length)(ho:p<o.length)(h:dv B9 (a.drop (p+1))=d*dv B9 (o.drop (p+1))+r)(hs:s=r*B9+Qn a p):
  dv B9 (a.drop p)=d*dv B9 ((o.set p (s/d)).drop p)+s%d:=by
 rw[set_drop ho,aS hp,<-YM hp];simp only[dv];rw[h];have e:s%d+d*(s/d)=s:=bH s d;generalize s/d=u at *
 generalize s%d=v at *
 generalize B9=B at *
 grind
theorem jY{d:Int}(hF:Fits F w)(hA:XF F ra a)(da:DG B9 a)(la:a.length<=100000000)(d0:0<d)(d1:d<B9):
  QV prog 190 [ra.v,.int .i64 d] w F (λ(c:(Sr×List Int)×Int)=>.tuple [.slice c.1.1.q c.1.1.n c.1.1.cap,.int .i64 c.2].toArray) (λc F=>XF F c.1.1 c.1.2/\DG B9 c.1.2/\NZ c.1.2/\0<=c.2/\c.2<d/\dv B9 a=d*dv B9 c.1.2+c.2/\c.1.2.length<=a.length):=by
 obtain⟨q,n,c⟩:=ra;have na:=hA.2.1;dsimp only at na;have h9:B9=1000000000:=rfl;refine QV.intro (G:=λF=>XF F ⟨q,n,c⟩ a) func190 rfl wy rfl rfl hF (λF' hF'=>hA.le hF') ?_;dsimp only[Sr.v];refine wA 9 I<|QA (Qh I JC)<|Mq (n:=n) (bytes:=8) rfl rfl JC JO SP I OM O O λbk=>?_
 rw[show Xb [af .i64 0] n=(bj a.length (0:Int)).map Jr by rw[Tj,na];simp[Jr]];refine QJK 12 I<|QA (Qh I JC)<|QA (X3 I I O)<|wQ I<|QW ?_
 refine YA (ι:=QH4 a d) (λi=>[(0,.slice q n c),(1,.int .i64 d),(6,.slice (some ⟨bk,0,none⟩) n n),(7,.int .i64 i.r),(8,.int .i64 ((i.k:Int)-1))]) (λi=>[(bk,.cells (i.o.map Jr).toArray 3 (0,0))]) (λ_ F=>XF F ⟨q,n,c⟩ a) (λi=>i.k)
  ⟨n,bj a.length 0,0,O,wz,DG.replicate XY _,bT _,d0,by rw[bG O,bG w6];simp[dv]⟩ wW QIM w9 λi=>?_
 have hile:=i.le;have hol:=i.len;have hr0:=i.r0;have hr1:=i.r1;refine wA 7 I ?_;refine QR I (λhc=>?_) λhc=>?_
 ·have hk0:0<i.k:=wk<|QJG hc
  have hka:i.k-1<a.length:=O;have hko:i.k-1<i.o.length:=O;have bx:=da.Qn XY (i.k-1);have bd:=QFg hr0 hr1 d1 bx;rw[h9]at bd;have hst:=QG1 (d:=d) (r:=i.r) (s:=i.r*1000000000+Qn a (i.k-1)) hka hko (by rw[show i.k-1+1=i.k by omega];exact i.h) rfl;refine XS _ (λ_ _ f h=>h.1.ptr (by dsimp only;omega)) (λhq=>?_);obtain⟨qb,qo,hq⟩:=hq;dsimp only at hq;subst hq;refine QJL 7 I<|QA (M0 I I O)<|wB 2 I<|QA (JJ (i:=i.k-1) rfl wM JC JO O)<|QA (Ym (n:=n) (sz:=1) (cs:=a.map Jr) rfl JO tA O (J6 hka))<|QA (Qw I I O)<|QJK 9 I<|QA (SX I I O O O)<|QA (JJ (i:=i.k-1) rfl wM JC JO O)<|QU (vs:=[_]) I I I JO I .here (SG hko _) wS ?_
  refine QJK 5 I<|QA (Hi I I O O)<|wB 2 I<|Qk<|QJM 3 I<|QA (X3 I I O)<|wB 2 I ?_
  exact Qm (⟨i.k-1,i.o.set (i.k-1) ((i.r*1000000000+Qn a (i.k-1))/d),(i.r*1000000000+Qn a (i.k-1))%d,O,by simpa using hol,i.dg.set _ bd.2.1 bd.2.2.1,bd.2.2.2.1,bd.2.2.2.2,hst⟩:QH4 a d) (by show i.k-1<i.k;omega) ⟨rfl,rfl,rfl,rfl,congrArg (λz:Int=>some (af .i64 z)) (by dsimp only;omega),trivial⟩ QIM w9
 refine Qz ?_
 repeat first|refine QZ ?_|refine QQ wy ?_
 refine Qa<|QC<|QG ?_
 have hex:i.k=0:=wk<|QJH hc
 have hr:Q9 3 1 (.slice (some ⟨bk,0,none⟩) n n) n (i.o.map Jr) [(bk,.cells (i.o.map Jr).toArray 3 (0,0))]:=by
  have:=Q9.some (T:=3) (sz:=1) (b:=bk) (n:=n) (cap:=n) (l:=i.o.map Jr) (rest:=[]) w6 w6 (ax _) (bh (show n<=200000000 by omega) wu);simpa using this
 obtain⟨r,hv,hrn,hrc,hfix⟩:=Q9.fix (w0:=w) (F0:=F) (bs1:=[]) (G:=λF=>XF F ⟨q,n,c⟩ a) hr;have hlz:=VX i.o;have hfin:=i.h;rw[hex,bD,bD]at hfin;refine jc hfix ?_;rw[hv];refine wA 2 I<|QI I (λ_ _ f k=>Tw (r:=r) (l:=i.o) f ⟨by rw[hrn];exact k.2,by rw[hrn];omega,O⟩ O) λc37=>QJK 6 I ?_
 exact Jd (((⟨r.q,(Je i.o).length,r.cap⟩,Je i.o),i.r):(Sr×List Int)×Int) rfl (wO I I) rfl λF h=>⟨h.2,i.dg.Je,Zv _,hr0,hr1,by show _=d*dv B9 (Je i.o)+i.r;rw[ZE];exact hfin,by show(Je i.o).length<=_;omega⟩
theorem QGy{v:List Int}{r:Int}(h:Hu B9 u v n)(t0:0<=t)(e:t*Qn v (n+1)+r=Qn u (n+2)*B9+Qn u (n+1))(hc:r*B9+Qn u n<t*Qn v n):dv B9 u<t*dv B9 v:=by
 obtain⟨a1,a2,a3⟩:=Kv (b:=B9) wu h.hu h.lu;obtain⟨b1,b2,b3⟩:=Wd (b:=B9) wu h.hv h.lv;rw[a1,b1];refine FX b2 a3 (pow_pos XY n) t0 ?_;rw[<-e];generalize B9=B at *
 grind
theorem QHl{v:List Int}(h:Hu B9 u v n)(ht:B9<=t):dv B9 u<t*dv B9 v:=by
 have h0:=JG (b:=B9) wu h.hv;have h1:B9*dv B9 v<=t*dv B9 v:=aA ht h0;have:=h.lt;omega
theorem QFc{v:List Int}(h:Hu B9 u v n)(t0:0<=t)(ht:Qn u (n+2)*B9+Qn u (n+1)<(t+1)*Qn v (n+1)):dv B9 u<(t+1)*dv B9 v:=by
 obtain⟨a1,a2,a3⟩:=Kv (b:=B9) wu h.hu h.lu;obtain⟨b1,b2,b3⟩:=Wd (b:=B9) wu h.hv h.lv;rw[a1,b1];refine FX b2 a3 (pow_pos XY n) O ?_;have d1:=h.hu.Qn XY n;have d2:=h.hv.Qn XY n;have e1:0<=(t+1)*Qn v n:=bP O d2.1;have e2:(Qn u (n+2)*B9+Qn u (n+1)+1)*B9<=(t+1)*Qn v (n+1)*B9:=aA O wu;generalize B9=B at *
 generalize Qn u (n+2)=u0 at *
 generalize Qn u (n+1)=u1 at *
 generalize Qn u n=u2 at *
 generalize Qn v (n+1)=v1 at *
 generalize Qn v n=v2 at *
 grind
theorem QF9{v:List Int}{r:Int}(h:Hu B9 u v n)(t0:0<=t)(t1:t<B9)(e:t*Qn v (n+1)+r=Qn u (n+2)*B9+Qn u (n+1))(hc:t*Qn v n<=r*B9+Qn u n):(t-1)*dv B9 v<=dv B9 u:=by
 obtain⟨a1,a2,a3⟩:=Kv (b:=B9) wu h.hu h.lu;obtain⟨b1,b2,b3⟩:=Wd (b:=B9) wu h.hv h.lv;rw[a1,b1];have d2:=h.hv.Qn XY n;have d3:1*B9<=Qn v (n+1)*B9:=aA (wk h.nz) wu;refine CL (pow_pos XY n) b3 a2 t0 ?_ O b2;rw[<-e];generalize B9=B at *
 grind
def QCk(u v:List Int)(t:Int):Prop:=0<=t/\t<B9/\(t-1)*dv B9 v<=dv B9 u/\dv B9 u<(t+1)*dv B9 v
structure GuI(u v:List Int)(m:Nat) where
 t:Int
 r:Int
 t0:0<=t
 r0:0<=r
 r1:r<B9
 t2:t<=1000000000000000000
 e:t*Qn v (m+1)+r=Qn u (m+2)*B9+Qn u (m+1)
 h:dv B9 u<(t+1)*dv B9 v
def kG{U:List Int}{j m:Nat}(h:k<m):Qn ((U.drop j).take m) k=Qn U (j+k):=by
 by_cases g:j+k<U.length
 ·rw[YM w6,YM g];simp
 rw[Ma w6,Ma O]
def QCg{v:List Int}{r:Int}(h:Hu B9 u v n)(t0:0<=t)(e:t*Qn v (n+1)+r=Qn u (n+2)*B9+Qn u (n+1))(hr:B9<=r)(hu:dv B9 u<(t+1)*dv B9 v):QCk u v t:=by
 have ht:=h.top wu;have d0:=h.hu.Qn XY n;have d1:=h.hu.Qn XY (n+1);have d2:=h.hv.Qn XY n;have hn:=h.nz;have e1:Qn u (n+2)*B9<=Qn v (n+1)*B9:=aA ht wu;have t1:t<B9:=by
  refine Int.not_le.1 λhc=>?_;have e2:B9*Qn v (n+1)<=t*Qn v (n+1):=aA hc O;rw[aI]at e2;omega
 refine⟨t0,t1,QF9 h t0 t1 e ?_,hu⟩;have e3:t*Qn v n<=B9*B9:=bQ O O d2.1 wu;have e4:B9*B9<=r*B9:=aA hr wu;omega
theorem vz{v:List Int}(hu:DG B9 u)(t0:0<=t)(h:dv B9 u<t*dv B9 v):0<=t-1:=by
 have:=JG (b:=B9) wu hu;rcases bN 0 t with g | g
 ·omega
 have e:t=0:=O;subst e;rw[fz]at h;omega
theorem QDw{rest:List Value}{w0:World}{F0:Gs}{G:Gs->Prop}{bs:List (Nat×Obj)}{bu nu cu j m:Nat}{rv:Sr}{U v:List Int}(hU:U.length=nu)(hj:j+m+3<=nu)(hn:nu<=1000000000)(hG:∀F,G F->XF F rv v)(hS:Hu B9 ((U.drop j).take (m+3)) v m):
  XI prog 192 [.slice (some ⟨bu,0,none⟩) nu cu,rv.v,.int .i64 (j:Int)] ⟨w0,F0,(bu,.cells (U.map Jr++rest).toArray 3 (0,0))::bs,G⟩ (λt:Int=>.int .i64 t) (λt=>⟨w0,F0,(bu,.cells (U.map Jr++rest).toArray 3 (0,0))::bs,λF=>G F/\QCk ((U.drop j).take (m+3)) v t⟩):=by
 obtain⟨q,n,c⟩:=rv;have hlv:=hS.lv;have h9:B9=1000000000:=rfl;have u2:Qn ((U.drop j).take (m+3)) (m+2)=Qn U (j+(m+2)):=kG O;have u1:Qn ((U.drop j).take (m+3)) (m+1)=Qn U (j+(m+1)):=kG O;have u0:Qn ((U.drop j).take (m+3)) m=Qn U (j+m):=kG O;have b2:=hS.hu.Qn XY (m+2);have b1:=hS.hu.Qn XY (m+1);have b0:=hS.hu.Qn XY m;have c1:=hS.hv.Qn XY (m+1);have c0:=hS.hv.Qn XY m;have nz:=hS.nz;refine XI.intro func192 rfl rfl rfl rfl ?_;dsimp only[Sr.v];refine XS _ (λ_ F f h=>(hG F h).2.1) (λhnv=>?_);dsimp only at hnv;obtain rfl:n=m+2:=O;refine XS _ (λ_ F f h=>(hG F h).1.ptr (by dsimp only;omega)) (λhq=>?_);obtain⟨qb,qo,hq⟩:=hq;dsimp only at hq;subst hq;refine wA 8 I<|QA (Qh I JC)<|wQ I<|QG<|JH QIM mixed wm<|QK (QD I)<|QK (QD I)<|QK (QD I)<|QK (Qw I I O)<|QK (JJ (i:=j+(m+2)) I wM JC JO O)<|QK (Vl (v:=.int .i64 (Qn ((U.drop j).take (m+3)) (m+2))) (c:=U.map Jr++rest) (T':=3) rfl JO .here (by rw[u2];exact V9 O))<|QK (M0 I I O)<|QK (QD I)<|QK (QD I)<|QK (QD I)<|QK (Qw I I O) ?_
 refine QK (X3 I I O)<|QK (JJ (i:=j+(m+1)) I wM JC JO O)<|QK (Vl (v:=.int .i64 (Qn ((U.drop j).take (m+3)) (m+1))) (c:=U.map Jr++rest) (T':=3) rfl JO .here (by rw[u1];exact V9 O))<|QK (Qw I I O)<|QK (QF I)<|Q7<|QC<|QG<|JH QIM mixed wm<|QK (QD I)<|QK (QD I)<|QK (QD I)<|QK (X3 I I O)<|QK (JJ (i:=m+1) rfl wM JC JO O)<|QK (Ym (n:=m+2) (sz:=1) (cs:=v.map Jr) rfl JO (λF h=>(hG F h).1) O (J6 (show m+1<v.length by omega)))<|QK (SX I I O O O)<|QK (QD I)<|QK (QD I)<|QK (QD I)<|QK (X3 I I O)<|QK (JJ (i:=m+1) rfl wM JC JO O)<|QK (Ym (n:=m+2) (sz:=1) (cs:=v.map Jr) rfl JO (λF h=>(hG F h).1) O (J6 (show m+1<v.length by omega)))<|QK (Hi I I O O)<|QK (QF I)<|QK (QF I) ?_
 refine Q7<|QJM 3 I ?_
 refine YA (ι:=GuI ((U.drop j).take (m+3)) v m) (λi=>[(0,.slice (some ⟨bu,0,none⟩) nu cu),(1,.slice (some ⟨qb,qo,none⟩) (m+2) c),(2,.int .i64 (j:Int)),(7,.int .i64 ((m+2:Nat):Int)),(9,.int .i64 i.t),(10,.int .i64 i.r)]) (λ_=>(bu,.cells (U.map Jr++rest).toArray 3 (0,0))::bs) (λ_=>G) (λi=>i.t.toNat)
  ⟨(Qn ((U.drop j).take (m+3)) (m+2)*1000000000+Qn ((U.drop j).take (m+3)) (m+1))/Qn v (m+1),(Qn ((U.drop j).take (m+3)) (m+2)*1000000000+Qn ((U.drop j).take (m+3)) (m+1))%Qn v (m+1),bA O O,bY _ O,fB (bR _ nz) c1.2,Int.le_trans (bI (a:=(Qn ((U.drop j).take (m+3)) (m+2)*1000000000+Qn ((U.drop j).take (m+3)) (m+1))) _ O) O,by rw[aI,Int.add_comm];exact bH _ _,QFc hS (bA O O) (Int.lt_ediv_add_one_mul_self _ nz)⟩ wX QIM w9 λi=>?_
 have t0:=i.t0;have r0:=i.r0;have r1:=i.r1;have t2:=i.t2;refine QG<|QG<|JH QIM mixed wm<|QK (QD I)<|QK (QT I I I)<|QK (QD I) ?_
 refine BV (t:=44) rfl (λhb44=>?_) λhb44=>?_
 ·refine Jw I I I<|Jw I I I<|Jw I I I<|Jw I I I<|Jw I I I<|Jw I I I<|Jw I I I<|Jw I I I<|Jw I I I<|Jw I I I<|Jw I I I<|Jw I I I<|Jw I I I<|Jw I I I<|Jw I I I<|Jw I I I<|Jw I I I<|Jw I I I<|QK (Qe I I I)<|Q7<|QC<|Ut I ?_
  have hl:dv B9 ((U.drop j).take (m+3))<i.t*dv B9 v:=QHl hS (wk<|QJG hb44);refine QJL 6 I<|QA (X3 I I O)<|QJK 8 I<|QA (X3 I I O)<|QA (JJ (i:=m+1) rfl wM JC JO O)<|QA (Ym (n:=m+2) (sz:=1) (cs:=v.map Jr) rfl JO (λF h=>(hG F h).1) O (J6 (show m+1<v.length by omega)))<|QA (Qw I I O)<|QJK 6 I ?_
  refine QJK 3 I ?_;refine QR I (λhc=>?_) λhc=>?_
  ·refine wA 7 I ?_
   repeat first|refine Q6 ?_|refine Qy ?_
   exact Y1 (i.t-1) rfl (wN I) rfl λw h=>h.imp QIM λF h=>⟨h,QCg (r:=i.r+Qn v (m+1)) hS (vz hS.hu t0 hl) (by rw[ei,aX,<-i.e];omega) (wk<|QJG hc) (by rw[bO];exact hl)⟩
  refine QO<|Qk ?_
  exact Qm (⟨i.t-1,i.r+Qn v (m+1),(vz hS.hu t0 hl),O,wk<|QJH hc,O,(by rw[ei,aX,<-i.e];omega),(by rw[bO];exact hl)⟩:GuI ((U.drop j).take (m+3)) v m) (by show(i.t-1).toNat<i.t.toNat;have:=(vz hS.hu t0 hl);omega) wX QIM w9
 have tb:i.t<B9:=wk<|QJH hb44
 have p0:0<=i.t*Qn v m:=bP t0 c0.1;have p1:i.t*Qn v m<=1000000000*1000000000:=bQ O O c0.1 wu;refine J1 I I<|QK (QD I)<|J1 I I<|QK (QD I)<|J1 I I<|QK (QD I)<|J1 I I<|QK (X3 I I O)<|J1 I I<|QK (JJ (i:=m) rfl wM JC JO O)<|J1 I I<|QK (Ym (n:=m+2) (sz:=1) (cs:=v.map Jr) rfl JO (λF h=>(hG F h).1) O (J6 (show m<v.length by omega)))<|J1 I I<|QK (M0 I I O)<|J1 I I<|QK (QD I)<|J1 I I<|QK (M0 I I O)<|J1 I I<|QK (QD I)<|J1 I I<|QK (QD I)<|J1 I I<|QK (QD I)<|J1 I I ?_
 refine QK (Qw I I O)<|J1 I I<|QK (X3 I I O)<|J1 I I<|QK (JJ (i:=j+m) rfl wM JC JO O)<|J1 I I<|QK (Vl (v:=.int .i64 (Qn ((U.drop j).take (m+3)) (m))) (c:=U.map Jr++rest) (T':=3) rfl JO .here (by rw[u0];exact V9 O))<|J1 I I<|QK (Qw I I O)<|J1 I I<|QK (QT I I I)<|QK (Qd I I I)<|Q7<|QC ?_
 refine QR I (λhc=>?_) λhc=>?_
 ·have hl:dv B9 ((U.drop j).take (m+3))<i.t*dv B9 v:=QGy hS t0 i.e (by have:=QJG hc;rw[h9];omega);refine QJL 6 I<|QA (X3 I I O)<|QJK 8 I<|QA (X3 I I O)<|QA (JJ (i:=m+1) rfl wM JC JO O)<|QA (Ym (n:=m+2) (sz:=1) (cs:=v.map Jr) rfl JO (λF h=>(hG F h).1) O (J6 (show m+1<v.length by omega)))<|QA (Qw I I O)<|QJK 6 I ?_
  refine QJK 3 I ?_;refine QR I (λhc=>?_) λhc=>?_
  ·refine wA 7 I ?_
   repeat first|refine Q6 ?_|refine Qy ?_
   exact Y1 (i.t-1) rfl (wN I) rfl λw h=>h.imp QIM λF h=>⟨h,QCg (r:=i.r+Qn v (m+1)) hS (vz hS.hu t0 hl) (by rw[ei,aX,<-i.e];omega) (wk<|QJG hc) (by rw[bO];exact hl)⟩
  refine QO<|Qk ?_
  exact Qm (⟨i.t-1,i.r+Qn v (m+1),(vz hS.hu t0 hl),O,wk<|QJH hc,O,(by rw[ei,aX,<-i.e];omega),(by rw[bO];exact hl)⟩:GuI ((U.drop j).take (m+3)) v m) (by show(i.t-1).toNat<i.t.toNat;have:=(vz hS.hu t0 hl);omega) wX QIM w9
 refine Qz ?_
 repeat first|refine QZ ?_|refine QQ wy ?_
 refine Qa<|QJM 8 I ?_
 exact Y1 (i.t) rfl (wN I) rfl λw h=>h.imp QIM λF h=>⟨h,⟨t0,tb,QF9 hS t0 tb i.e (by have:=QJH hc;rw[h9];omega),i.h⟩⟩
end Go.Proofs.YtbpmnjieoncbcaaGreatDoor
namespace Ig
structure vc(b:Int)(U v:List Int)(j:Nat)(t:Int)(i:Nat)(U':List Int)(br:Int):Prop where
 len:U'.length=U.length
 dg:DG b U'
 lo:U'.take j=U.take j
 hi:U'.drop (j+i)=U.drop (j+i)
 br0:0<=br
 br1:br<=b
 h:dv b U'+b^j*(t*dv b (v.take i))=dv b U+b^(j+i)*br
def vc.start{b:Int}(hb:0<=b){U v:List Int}(hU:DG b U)(j:Nat)(t:Int):vc b U v j t 0 U 0 :=
 ⟨rfl,hU,rfl,rfl,bT _,hb,wz⟩
def QEb{l:List Int}{p k:Nat}:Qn (l.drop p) k=Qn l (p+k):=by
 by_cases g:p+k<l.length
 ·rw[YM w6,YM g];simp
 rw[Ma w6,Ma O]
def Gb{l m:List Int}{p q:Nat}(h:l.drop p=m.drop p)(hq:p<=q):Qn l q=Qn m q:=by
 have:=congrArg (λx=>Qn x (q-p)) h;simp only[QEb]at this;rw[show p+(q-p)=q by omega]at this;exact this
def QFK{b t x br:Int}(hb:1<b)(ht:0<=t/\t<b)(hx:0<=x/\x<b)(h:0<=br/\br<=b):0<=t*x/\t*x<=(b-1)*(b-1)/\0<=(t*x+br)/b/\(t*x+br)/b<b:=by
 have h0:=bP ht.1 hx.1;have h1:t*x<=(b-1)*(b-1):=bQ O O hx.1 O;refine⟨h0,h1,bA O O,bZ O ?_⟩;have e:(b-1)*(b-1)=b*b-2*b+1:=by grind
 omega
def vc.step{b:Int}{U v U':List Int}{j i:Nat}{t br x br':Int}(h:vc b U v j t i U' br)(hj:j+i<U.length)
  (hx:0<=x/\x<b) (hbr:br'<=b/\0<=br') (e:x-b*br'=Qn U (j+i)-(t*Qn v i+br)):vc b U v j t (i+1) (U'.set (j+i) x) br':=by
 obtain⟨h1,h2,h3,h4,h5,h6,h7⟩:=h;have hd:Qn U' (j+i)=Qn U (j+i):=Gb h4 (ax _);refine⟨by simpa using h1,h2.set _ hx.1 hx.2,?_,?_,hbr.2,hbr.1,?_⟩
 ·rw[aH O];exact h3
 ·rw[aY O,<-bJ,<-aG,h4,aG]
 rw[Rq b O,hd,Hm,<-bJ,aQ];have e':b^(j+i)*(x-b*br')=b^(j+i)*(Qn U (j+i)-(t*Qn v i+br)):=by rw[e]
 rw[eF]at *
 generalize b^i=p at *
 generalize b^j=q at *
 grind
structure uU(b:Int)(U v:List Int)(j n:Nat)(t:Int)(U':List Int)(top:Int):Prop where
 len:U'.length=U.length
 dg:DG b (U'.set (j+n) 0)
 lo:U'.take j=U.take j
 hi:U'.drop (j+n+1)=U.drop (j+n+1)
 tp:Qn U' (j+n)=top
 h:dv b U'=dv b U-b^j*(t*dv b v)
def vc.stop{b:Int}(hb:1<b){U v U':List Int}{j n:Nat}{t br:Int}(h:vc b U v j t n U' br)(hn:v.length=n)(hj:j+n<U.length):uU b U v j n t (U'.set (j+n) (Qn U (j+n)-br)) (Qn U (j+n)-br):=by
 obtain⟨h1,h2,h3,h4,h5,h6,h7⟩:=h;have hd:Qn U' (j+n)=Qn U (j+n):=Gb h4 (ax _);refine⟨by simpa using h1,?_,?_,?_,?_,?_⟩
 ·rw[fj];exact h2.set _ (bT _) O
 ·rw[aH O];exact h3
 ·rw[aY O,<-aG,h4,aG]
 ·rw[Ee O,if_pos rfl]
 rw[Rq b O,hd];rw[aq O]at h7;generalize b^(j+n)=p at *
 generalize b^j=q at *
 grind
def Wo(b:Int)(l:List Int)(j:Nat):dv b l=dv b (l.take j)+b^j*dv b (l.drop j):=by
 by_cases h:j<=l.length
 ·exact Vj b l j h
 rw[aq O,bF O];simp
def uU.part{b:Int}(hb:0<b){U v U':List Int}{j n:Nat}{t top:Int}(h:uU b U v j n t U' top):dv b (U'.drop j)=dv b (U.drop j)-t*dv b v:=by
 have e:=h.h;rw[Wo b U' j,Wo b U j,h.lo]at e;have hp:=pow_pos hb j;have e2:b^j*dv b (U'.drop j)=b^j*(dv b (U.drop j)-t*dv b v):=by
  rw[bL];generalize b^j*dv b (U'.drop j)=x at *;generalize b^j*dv b (U.drop j)=y at *;omega
 exact eQ O e2
def jX{l:List Int}{j n:Nat}(h:j+n<l.length):l.drop j=(l.drop j).take n++Qn l (j+n)::l.drop (j+n+1):=by
 have e:(l.drop j).drop n=Qn l (j+n)::l.drop (j+n+1):=by
  rw[aG,Xo h]
 rw[<-e,bX]
def QC9{b:Int}(hb:1<b){U:List Int}{k n:Nat}(hU:DG b U)(h:dv b (U.drop k)<b^n):dv b (U.drop (k+n))=0:=by
 have e:=Wo b (U.drop k) n;rw[aG]at e;have h1:=JG (b:=b) O ((hU.drop k).take n);have h2:=JG (b:=b) O (hU.drop (k+n));have hp:=pow_pos (b:=b) O n;rcases bN 0 (dv b (U.drop (k+n)))with g | g
 ·have:b^n*1<=b^n*dv b (U.drop (k+n)):=ai O O;rw[eG]at this;omega
 omega
def uU.sign{b:Int}(hb:1<b){U v U':List Int}{j n:Nat}{t top:Int}(h:uU b U v j n t U' top)(hz:dv b (U.drop (j+n+1))=0)(hj:j+n<U.length):
  ∃lo,0<=lo/\lo<b^n/\dv b (U'.drop j)=lo+b^n*top:=by
 have hlen:=h.len;have hw:=jX (l:=U') (j:=j) (n:=n) O;refine⟨dv b ((U'.drop j).take n),?_,?_,?_⟩
 ·have:DG b ((U'.drop j).take n):=by
   have:=((h.dg.drop j).take n);rw[er,if_neg O,bC,aH (ax _)]at this;exact this
  exact JG O this
 ·have:DG b ((U'.drop j).take n):=by
   have:=((h.dg.drop j).take n);rw[er,if_neg O,bC,aH (ax _)]at this;exact this
  have h2:=Km (by omega:0<b) this;rw[show((U'.drop j).take n).length=n by simp;omega]at h2;exact h2
 have e:=congrArg (dv b) hw;rw[YC,VV,h.hi,hz,h.tp,show((U'.drop j).take n).length=n by simp;omega]at e;simpa using e
def uU.QGz{b:Int}(hb:1<b){U v U':List Int}{j n:Nat}{t top:Int}(h:uU b U v j n t U' top)(hj:j+n<U.length)(h0:0<=top)(ht:top<b)
  (g:dv b (U.drop j)<(t+1)*dv b v):DG b U'/\dv b (U'.drop j)<dv b v/\dv b U'=dv b U-b^j*(t*dv b v):=by
 have hp:=h.part O;refine⟨?_,?_,h.h⟩
 ·have e:U'=(U'.set (j+n) 0).set (j+n) top:=by
   rw[fj];have:=h.tp;rw[YM (by rw[h.len];exact hj)]at this;rw[<-this,List.set_getElem_self]
  rw[e];exact h.dg.set _ h0 ht
 rw[hp];rw[ek,aX]at g;omega
def Ij.start{b:Int}{U v:List Int}{j n:Nat}(hU:DG b (U.set (j+n) 0)):Ij b U v j n 0 U 0 :=
 ⟨rfl,hU,rfl,rfl,bT _,O,wz⟩
def Ij.step{b:Int}{U v U':List Int}{j n i:Nat}{c x c':Int}(h:Ij b U v j n i U' c)(hi:i<n)(hj:j+n<U.length)
  (hx:0<=x/\x<b) (hc:0<=c'/\c'<=1) (e:x+b*c'=Qn U (j+i)+Qn v i+c):Ij b U v j n (i+1) (U'.set (j+i) x) c':=by
 obtain⟨h1,h2,h3,h4,h5,h6,h7⟩:=h;have hd:Qn U' (j+i)=Qn U (j+i):=Gb h4 (ax _);refine⟨by simpa using h1,?_,?_,?_,hc.1,hc.2,?_⟩
 ·rw[List.set_comm _ _ O];exact h2.set _ hx.1 hx.2
 ·rw[aH O];exact h3
 ·rw[aY O,<-bJ,<-aG,h4,aG]
 rw[Rq b O,hd,Hm,<-bJ,aQ];have e':b^(j+i)*(x+b*c')=b^(j+i)*(Qn U (j+i)+Qn v i+c):=by rw[e]
 rw[eF]at *
 generalize b^i=p at *
 generalize b^j=q at *
 grind
def Ij.Qn{b:Int}(hb:1<b){U v U':List Int}{j n i:Nat}{c:Int}(h:Ij b U v j n i U' c)(hi:i<n):0<=Qn U' (j+i)/\Qn U' (j+i)<b:=by
 have:=h.dg.Qn O (j+i);by_cases g:j+n<U'.length
 ·rw[Ee g,if_neg O]at this;exact this
 rw[List.set_eq_of_length_le O]at this;exact this
def Ij.QGz{b:Int}(hb:1<b){U v U1 U':List Int}{j n:Nat}{t top c:Int}(h:Ij b U1 v j n n U' c)(hs:uU b U v j n t U1 top)(hU:DG b U)(hv:DG b v)(hn:v.length=n)(hz:dv b (U.drop (j+n+1))=0)(hj:j+n<U.length)(h0:top<0)
  (g:(t-1)*dv b v<=dv b (U.drop j)):DG b (U'.set (j+n) (top+c))/\dv b ((U'.set (j+n) (top+c)).drop j)<dv b v/\dv b (U'.set (j+n) (top+c))=dv b U-b^j*((t-1)*dv b v)/\0<=t-1/\(U'.set (j+n) (top+c)).length=U.length:=by
 obtain⟨lo,l0,l1,l2⟩:=hs.sign hb hz hj;have hp:=hs.part O;have hlen:=hs.len;obtain⟨a1,a2,a3,a4,a5,a6,a7⟩:=h;have hd:Ig.Qn U' (j+n)=top:=by rw[Gb a4 (ax _),hs.tp]
 rw[aq O]at a7;have hv0:=JG (b:=b) O hv;have hv1:=Km (b:=b) O hv;rw[hn]at hv1;have hB:=pow_pos (b:=b) O n;have hw:dv b (U'.set (j+n) (top+c))=dv b U-b^j*((t-1)*dv b v):=by
  rw[Rq b O,hd];have e:=hs.h;generalize b^(j+n)=p at *
  generalize b^j=q at *
  grind
 have hlo:(U'.set (j+n) (top+c)).take j=U.take j:=by
  rw[aH O,a3,hs.lo]
 have hpart:dv b ((U'.set (j+n) (top+c)).drop j)=dv b (U.drop j)-(t-1)*dv b v:=by
  have e:=hw;rw[Wo b _ j,Wo b U j,hlo]at e;have hq:=pow_pos (b:=b) O j;have e2:b^j*dv b ((U'.set (j+n) (top+c)).drop j)=b^j*(dv b (U.drop j)-(t-1)*dv b v):=by
   rw[bL];generalize b^j*dv b ((U'.set (j+n) (top+c)).drop j)=x at *;generalize b^j*dv b (U.drop j)=y at *;omega
  exact eQ O e2
 have hneg:dv b (U1.drop j)<0:=by
  rw[l2];have:b^n*top<=b^n*(-1):=ai O O;omega
 have hlt:dv b ((U'.set (j+n) (top+c)).drop j)<dv b v:=by
  rw[hpart,ei,aX];omega
 have hge:0<=dv b ((U'.set (j+n) (top+c)).drop j):=by rw[hpart];omega
 have hsd:dv b ((U'.set (j+n) (top+c)).drop j)=dv b ((U'.drop j).take n)+b^n*(top+c):=by
  have hw2:=congrArg (dv b) (jX (l:=U'.set (j+n) (top+c)) (j:=j) (n:=n) w6);have e3:(U'.set (j+n) (top+c)).drop (j+n+1)=U'.drop (j+n+1):=aY O;rw[YC,VV,Ee (show j+n<U'.length by omega),if_pos rfl,e3]at hw2;have:dv b (U'.drop (j+n+1))=0:=by
   rw[<-aG,a4,aG,hs.hi];exact hz
  have e2:((U'.set (j+n) (top+c)).drop j).take n=(U'.drop j).take n:=by
   rw[er,if_neg O,bC,aH (ax _)]
  rw[this,e2,show((U'.drop j).take n).length=n by simp;omega]at hw2;simpa using hw2
 have hdg:DG b ((U'.drop j).take n):=by
  have:=((a2.drop j).take n);rw[er,if_neg O,bC,aH (ax _)]at this;exact this
 have d0:=JG (b:=b) O hdg;have d1:=Km (b:=b) O hdg;rw[show((U'.drop j).take n).length=n by simp;omega]at d1;have ht0:top+c=0:=by
  rw[hsd]at hlt hge;have q1:¬1<=top+c:=λq=>by
   have:b^n*1<=b^n*(top+c):=ai q O;omega
  have q2:¬top+c<=-1:=λq=>by
   have:b^n*(top+c)<=b^n*(-1):=ai q O;omega
  omega
 refine⟨?_,hlt,hw,?_,w6⟩
 ·rw[ht0];exact a2
 rcases bN (t-1) 0 with q | q
 ·exfalso;have u0:=JG (b:=b) O (hU.drop j);have:t*dv b v<=0:=Int.mul_nonpos_of_nonpos_of_nonneg O hv0;omega
 exact q
end Ig
namespace Go.Proofs.YtbpmnjieoncbcaaGreatDoor
variable{c f t z zx:Int}{x y:Rat}{T yT:TypeId}{a b l o out u:List Int}{i k n:Nat}{s:List UInt8}{w:World}{F:Gs}{ra rb:Sr}
open Go.RowKit Ig
def dW(db:DG B9 b)(zb:NZ b)(hn:b.length=n+1):1<=Qn b n/\1<=B9/(Qn b n+1)/\B9/(Qn b n+1)<B9/\B9/(Qn b n+1)*(Qn b n+1)<=B9:=by
 have hd:=db.Qn XY n;have h1:1<=Qn b n:=by
  have hlt:n<b.length:=O;have:Qn b n≠0:=by
   intro e;refine zb ?_;rw[List.getLast?_eq_getElem?,hn,ew,List.getElem?_eq_getElem hlt];rw[YM hlt]at e;rw[e]
  omega
 have h9:B9=1000000000:=rfl;refine⟨h1,?_,?_,Int.ediv_mul_le _ O⟩
 ·exact(Int.le_ediv_iff_mul_le O).2 O
 exact bZ O (by rw[bM];have:B9*1<=B9*Qn b n:=ai h1 O;omega)
def QEH{v:List Int}(db:DG B9 b)(zb:NZ b)(hn:b.length=n+1)(dv':DG B9 v)(zv:NZ v)(h:dv B9 v=dv B9 b*f)(h1:1<=f)(h2:f*(Qn b n+1)<=B9):v.length=n+1:=by
 have hlt:n<b.length:=O;have e1:dv B9 b=dv B9 (b.take n)+B9^n*Qn b n:=by
  have:=Hm B9 b n;rw[aq O]at this;exact this
 have e2:=Km XY (db.take n);rw[show(b.take n).length=n by simp;omega]at e2;have hb0:B9^n<=dv B9 b:=by
  have:=Rs XY db zb (by intro e;rw[e]at hn;simp at hn);rw[hn,ew]at this;exact this
 have hp:=pow_pos XY n;have hup:dv B9 b<B9^n*(Qn b n+1):=by rw[bM,eG];omega
 have hv1:dv B9 v<B9^(n+1):=by
  rw[h,aQ];have:dv B9 b*f<B9^n*(Qn b n+1)*f:=eN hup O;have q:B9^n*(Qn b n+1)*f<=B9^n*B9:=by
   rw[bU,aI (Qn b n+1)];exact ai h2 O
  omega
 have hv0:B9^n<=dv B9 v:=by
  rw[h];have:dv B9 b*1<=dv B9 b*f:=ai h1 O;omega
 rcases Nat.lt_trichotomy v.length (n+1)with g | g | g
 ·have h3:=Km XY dv';have h4:=Ig.Xz (b:=B9) wu (show v.length<=n by omega);omega
 ·exact g
 have h3:=Rs XY dv' zv (by intro e;rw[e]at g;simp at g);have h4:=Ig.Xz (b:=B9) wu (show n+1<=v.length-1 by omega);omega
def QGt{b:Int}(hb:0<b){U:List Int}{k:Nat}(hU:DG b U):b^k*dv b (U.drop k)<=dv b U:=by
 rw[Wo b U k];have:=JG hb (hU.take k);omega
structure Cj(a v:List Int)(f:Int)(n:Nat) where
 k:Nat
 U:List Int
 Q:List Int
 le:k+n<=a.length+1
 lu:U.length=a.length+1
 lq:Q.length=a.length+1-n
 du:DG B9 U
 dq:DG B9 Q
 lt:dv B9 (U.drop k)<dv B9 v
 h:dv B9 a*f=dv B9 v*(B9^k*dv B9 (Q.drop k))+dv B9 U
def Cj.start{a b v U:List Int}{f:Int}{n:Nat}(da:DG B9 a)(db:DG B9 b)(zb:NZ b)(hn:b.length=n+1)(hv:dv B9 v=dv B9 b*f)(h1:1<=f)(du:DG B9 U)(lu:U.length=a.length+1)(hU:dv B9 U=dv B9 a*f)(hl:n+1<=a.length+1):Cj a v f (n+1) where
 k:=a.length+1-(n+1)
 U:=U
 Q:=bj (a.length+1-(n+1)) 0
 le:=O
 lu:=lu
 lq:=wz
 du:=du
 dq:=DG.replicate XY _
 lt:=by
  have hb0:B9^n<=dv B9 b:=by
   have:=Rs XY db zb (by intro e;rw[e]at hn;simp at hn);rw[hn,ew]at this;exact this
  have h2:=QGt XY (k:=a.length-n) du;have h3:=Km XY da;have h4:dv B9 a*f<B9^a.length*f:=eN h3 O;have h5:B9^a.length*f=B9^(a.length-n)*(B9^n*f):=by rw[<-bU,<-eF];congr 2;omega
  rw[hU]at h2;have h6:B9^(a.length-n)*dv B9 (U.drop (a.length-n))<B9^(a.length-n)*(B9^n*f):=O;have h7:dv B9 (U.drop (a.length-n))<B9^n*f:=eP h6 (wk<|pow_pos XY (a.length-n));have h8:B9^n*f<=dv B9 b*f:=aA hb0 O;rw[show a.length+1-(n+1)=a.length-n by omega,hv];omega
 h:=by
  rw[bF wz,kD,eB,eB,fA,hU]
def Cj.zero{v:List Int}(i:Cj a v f n)(dv':DG B9 v)(hv:v.length=n):dv B9 (i.U.drop (i.k+n))=0:=by
 have:=Km XY dv';rw[hv]at this;exact QC9 TM i.du (fB i.lt this)
def Cj.um{v:List Int}{m:Nat}(i:Cj a v f (m+2))(dv':DG B9 v)(zv:0<Qn v (m+1))(hv:v.length=m+2)(hk:0<i.k):Hu B9 ((i.U.drop (i.k-1)).take (m+3)) v m/\dv B9 (i.U.drop (i.k-1))=dv B9 ((i.U.drop (i.k-1)).take (m+3)):=by
 have hz:=i.zero dv' hv;have hle:=i.le;have hlu:=i.lu;have e:dv B9 (i.U.drop (i.k-1))=dv B9 ((i.U.drop (i.k-1)).take (m+3)):=by
  have:=Wo B9 (i.U.drop (i.k-1)) (m+3);rw[aG,show i.k-1+(m+3)=i.k+(m+2) by omega,hz]at this;simpa using this
 refine⟨⟨(i.du.drop _).take _,dv',w6,hv,zv,?_⟩,e⟩;rw[<-e,Xo O,VV,show i.k-1+1=i.k by omega];have hd:=i.du.Qn XY (i.k-1);have hlt:=i.lt;have:B9*dv B9 (i.U.drop i.k)<=B9*(dv B9 v-1):=ai O wu;rw[bL,eG]at this;omega
def Cj.next{a v:List Int}{f:Int}{n:Nat}(i:Cj a v f n)(hk:0<i.k)(hn:0<n){U1:List Int}{t:Int}(t0:0<=t)(t1:t<B9)(h1:DG B9 U1)(h2:dv B9 (U1.drop (i.k-1))<dv B9 v)(h3:dv B9 U1=dv B9 i.U-B9^(i.k-1)*(t*dv B9 v))(h4:U1.length=i.U.length):Cj a v f n where
 k:=i.k-1
 U:=U1
 Q:=i.Q.set (i.k-1) t
 le:=wk i.le
 lu:=by rw[h4,i.lu]
 lq:=by rw[av,i.lq]
 du:=h1
 dq:=i.dq.set _ t0 t1
 lt:=h2
 h:=by
  have hle:=i.le;have hlq:=i.lq;rw[h3,Xo (l:=i.Q.set (i.k-1) t) (by rw[av];omega),VV,Ee O,if_pos rfl,aY O,show i.k-1+1=i.k by omega,i.h];have e:B9^i.k=B9^(i.k-1)*B9:=by rw[<-aQ];congr 1;omega
  rw[e];generalize B9^(i.k-1)=p;generalize dv B9 (i.Q.drop i.k)=q;generalize dv B9 i.U=u;generalize dv B9 v=y;generalize B9=B
  grind
theorem Cj.stop{v:List Int}(i:Cj a v f n)(hk:i.k=0)(db:DG B9 b)(da:DG B9 a)(hv:dv B9 v=dv B9 b*f)(h1:1<=f)(hb:0<dv B9 b)(dv':DG B9 v)(lv:v.length=n):
  dv B9 i.Q=dv B9 a/dv B9 b/\dv B9 (i.U.take n)=f*(dv B9 a%dv B9 b):=by
 have h:=i.h;have lt:=i.lt;rw[hk,bD]at lt;have hz:=i.zero dv' lv;rw[hk,aU]at hz;have e0:dv B9 (i.U.take n)=dv B9 i.U:=by
  rw[Wo B9 i.U n,hz];simp
 rw[hk,bD,Int.pow_zero,aX,hv]at h;rw[hv]at lt;have u0:=JG XY i.du;rw[e0];have e1:dv B9 i.U=f*(dv B9 a-dv B9 b*dv B9 i.Q):=by rw[bL];grind
 have lt2:f*(dv B9 a-dv B9 b*dv B9 i.Q)<f*dv B9 b:=by rw[<-e1,aI f (dv B9 b)];exact lt
 have r1:dv B9 a-dv B9 b*dv B9 i.Q<dv B9 b:=eP lt2 O;have r0:0<=dv B9 a-dv B9 b*dv B9 i.Q:=by
  rcases bN (dv B9 a-dv B9 b*dv B9 i.Q) 0 with g | g
  ·have:f*(dv B9 a-dv B9 b*dv B9 i.Q)<=f*(-1):=ai O O;omega
  exact g
 have q:dv B9 a/dv B9 b=dv B9 i.Q:=YD hb (by rw[aI];omega) (by rw[ek,aX,aI];omega);refine⟨q.symm,?_⟩;rw[e1];have:=fC (dv B9 a) (dv B9 b);rw[this,q]
section
variable[Dr][df:Df]{P:Program}{Q:Exit->Act->World->Prop}{N:Nat}{m:Sl}{ops:Array Oper}{l:List Oper}{w0:World}{F0:Gs}{bs:List (Nat×Obj)}{G:Gs->Prop}{ty:TypeId}{pos:String}{aft:Array Edge}
theorem Q9.big{sz:Nat}{v:Value}{cs:List Value}{ob:List (Nat×Obj)}(hr:Q9 T sz v n cs ob)(hn:0<n):∃b cap rest,v = .slice (Option.some ⟨b,0,Option.none⟩) n cap/\ob=[(b,.cells (cs++rest).toArray T (0,0))]/\n<=cap:=by
 cases hr with
 |nil=>exact absurd hn (fi 0)
 |some h1 h2 h3 h4=>exact⟨_,_,_,rfl,rfl,h3⟩
theorem Src.QIX{sz b off c:Nat}{news:List Value}(hr:∀F,G F->Qx F (some ⟨b,off,none⟩) k sz news)(hk:0<k)(hl:news.length=k*sz):Src ⟨w0,F0,bs,G⟩ sz (.slice (.some ⟨b,off,none⟩) k c) k news :=
 ⟨hl,.inr ⟨_,_,rfl,λw hw j v hv=>by rw[BS];exact Ws hw hr hk hv⟩⟩
end
theorem XF.own{b c:Nat}{rest:List Value}(h:F b=some ((l.map Jr++rest).toArray,T))(hl:l.length=n)(hn:n<=c):XF F ⟨some ⟨b,0,none⟩,n,c⟩ l:=by
 refine⟨⟨by simp[hl],λ_=>⟨b,0,_,T,rfl,h,λj u hu=>?_⟩⟩,hl,hn⟩;have hj:j<(l.map Jr).length:=by rcases aW j (l.map Jr).length with g | g;exact g;rw[eV g]at hu;cases hu
 rw[aU,aF,List.getElem?_append,if_pos hj];exact hu
def XF.QId{b c:Nat}(h:F b=some ((l.map Jr).toArray,T))(hl:l.length=n)(hn:n<=c):XF F ⟨some ⟨b,0,none⟩,n,c⟩ l:=XF.own (rest:=[]) (by rw[fc];exact h) hl hn
def XF.one{b:Nat}{x:Int}(h:F b=some (([af .i64 x]:List Value).toArray,T)):XF F ⟨some ⟨b,0,none⟩,1,1⟩ [x]:=⟨Qx.of h rfl,rfl,ax _⟩
def XF.take{q:Option Addr}{c:Nat}(h:XF F ⟨q,n,c⟩ l)(hk:k<=n):XF F ⟨q,k,c⟩ (l.take k):=by
 have hn:=h.2.1;have hc:=h.2.2;dsimp only at hn hc;exact⟨h.1.take hn hk,w6,by show k<=c;omega⟩
def RV{m:List Int}(hl:DG B9 l)(hm:DG B9 m)(zl:NZ l)(h:dv B9 l<=dv B9 m):l.length<=m.length:=by
 rcases aW m.length l.length with g | g
 ·have:=ZQ TM hm hl zl g;omega
 exact g
def QBu(x:Int):dv B9 [x]=x:=by simp[dv]
def QDy{x r:Int}(hf:0<f)(h:f*x=f*r+t)(h0:0<=t)(h1:t<f):r=x:=by
 have e:t=f*(x-r):=by rw[bL];omega
 rcases Int.lt_trichotomy (x-r) 0 with g | g | g
 ·have:f*(x-r)<=f*(-1):=ai O O;omega
 ·omega
 have:f*1<=f*(x-r):=ai O O;omega
def QGG(a b:List Int)(c:(Sr×List Int)×(Sr×List Int))(F:Gs):Prop :=
 (XF F c.1.1 c.1.2/\DG B9 c.1.2/\NZ c.1.2/\dv B9 c.1.2=dv B9 a/dv B9 b)/\(XF F c.2.1 c.2.2/\DG B9 c.2.2/\NZ c.2.2/\dv B9 c.2.2=dv B9 a%dv B9 b)
theorem QFU(nb:b.length=1)(db:DG B9 b)(c:(Sr×List Int)×Int){k:Nat}
  (h:XF F c.1.1 c.1.2/\DG B9 c.1.2/\NZ c.1.2/\0<=c.2/\c.2<Qn b 0/\dv B9 a=Qn b 0*dv B9 c.1.2+c.2/\c.1.2.length<=a.length) (h':XF F ⟨some ⟨k,0,none⟩,(Je [c.2]).length,1⟩ (Je [c.2])) :
  QGG a b ((c.1.1,c.1.2),(⟨some ⟨k,0,none⟩,(Je [c.2]).length,1⟩,Je [c.2])) F:=by
 obtain⟨h1,h2,h3,h4,h5,h6,_⟩:=h;have e:dv B9 b=Qn b 0:=by
  obtain⟨x,rfl⟩:=List.length_eq_one_iff.1 nb;simp[dv,Qn]
 have b0:=db.Qn XY 0;refine⟨⟨h1,h2,h3,?_⟩,h',(DG.cons h4 O (DG.nil _)).Je,Zv _,?_⟩
 ·show dv B9 c.1.2=_;rw[e];exact(YD O (by rw[aI];omega) (by rw[ek,aX,aI];omega)).symm
 show dv B9 (Je [c.2])=_;rw[ZE,QBu,e,YT (q:=dv B9 c.1.2) (by rw[aI];omega) (by rw[ek,aX,aI];omega),aI];omega
structure QI4(a:List Int)(f:Int) where
 U:List Int
 v:Value
 ob:List (Nat×Obj)
 le:U.length<=a.length+1
 du:DG B9 U
 h:dv B9 U=dv B9 a*f
 hr:Q9 3 1 v U.length (U.map Jr) ob
structure QIx(U v:List Int)(j:Nat)(t:Int) where
 i:Nat
 U':List Int
 br:Int
 le:i<=v.length
 h:vc B9 U v j t i U' br
structure QJE(U v:List Int)(j n:Nat) where
 i:Nat
 U':List Int
 c:Int
 le:i<=n
 h:Ig.Ij B9 U v j n i U' c
@[reducible] def QIK (c:(Sr×List Int)×(Sr×List Int)):Value:=.tuple #[.slice c.1.1.q c.1.1.n c.1.1.cap,.slice c.2.1.q c.2.1.n c.2.1.cap]
set_option maxHeartbeats 4000000 in
theorem T7(hF:Fits F w)(hA:XF F ra a)(hB:XF F rb b)(da:DG B9 a)(db:DG B9 b)(za:NZ a)(zb:NZ b)(hb:0<dv B9 b)(la:a.length<=10000000)(lb:b.length<=10000000):
  QV prog 120 [ra.v,rb.v] w F QIK (λc F=>QGG a b c F):=by
 obtain⟨q,n,c⟩:=ra;obtain⟨q',n',c'⟩:=rb;have na:=hA.2.1;have nb:=hB.2.1;dsimp only at na nb;have h9:B9=1000000000:=rfl;have nb0:0<n':=by
  rcases aB n' with g | g
  ·rw[g]at nb;rw[ao nb]at hb;simp at hb
  exact g
 dsimp only[Sr.v];refine QV.intro (G:=λF=>XF F ⟨q,n,c⟩ a/\XF F ⟨q',n',c'⟩ b) func120 rfl wy rfl rfl hF (λF' hF'=>⟨hA.le hF',hB.le hF'⟩)<|QI7<|QH1 rfl<|wQ rfl<|QG<|wR rfl<|QH0 rfl<|QI rfl (λ_ _ f k=>S2 f (ra:=⟨q,n,c⟩) (rb:=⟨q',n',c'⟩) k.1 (k.2) (da) (db) (za) (zb) O O) λ_=>QA (QT rfl rfl rfl)<|QE<|QC ?_
 refine QR I (λhc=>?_) λhc=>?_
 ·have hlt:dv B9 a<dv B9 b:=by have:=QJG hc;unfold YE at this;split at this;assumption;split at this<;>omega
  refine wA 8 I ?_;exact Jd (((⟨none,0,0⟩,[]),(⟨q,n,c⟩,a)):(Sr×List Int)×(Sr×List Int)) I (wO I I) (rfl) λF h9=>⟨⟨⟨Qx.nil F _ _,rfl,ax _⟩,DG.nil _,by simp[NZ],by rw[kD];exact(Int.ediv_eq_zero_of_lt (JG XY da) hlt).symm⟩,h9.1.1,da,za,(Int.emod_eq_of_lt (JG XY da) hlt).symm⟩
 have hge:dv B9 b<=dv B9 a:=by have:=QJH hc;unfold YE at this;split at this;exact absurd this wu;omega
 refine QJL 6 I<|QA (Qh I JC)<|QJK 3 I ?_
 refine QR I (λhc=>?_) λhc=>?_
 ·have hn1:n'=1:=wk<|QJG hc
  subst hn1;obtain⟨f1,_⟩:=dW (n:=0) db zb nb;have bx:=db.Qn XY 0;have d0:=bx.2;refine wA 4 I<|QA (Q3 (n:=1) (0) (λF h9=>(h9.1.2).1) rfl wM JC JO O)<|QA (Q5 (n:=1) ((0)*1) (λF h9=>(h9.1.2).1) O rfl JO (J6 (o:=b) O))<|QI I (λ_ _ f k=>jY f (ra:=⟨q,n,c⟩) k.1.1 (da) O O (d0)) λc37=>QJK 8 I<|XS _ (λ_ _ f k=>k.2.2) λp37=>wA 3 I<|Qb I (Q4 JC) JO SP I I λb42=>QI I (λ_ _ f k=>Tw f (r:=⟨some ⟨b42,0,none⟩,1,1⟩) (XF.one k.2) wz) λc43=>QJK 4 I ?_
  refine QY ?_;exact Jd (((c37.1.1,c37.1.2),(⟨some ⟨b42,0,none⟩,(Je [c37.2]).length,1⟩,Je [c37.2])):(Sr×List Int)×(Sr×List Int)) I (wO I I) (rfl) λF h9=>QFU nb db c37 h9.1.1.2 h9.2
 have hn2:n'≠1:=λe=>QJH hc O;obtain⟨m,rfl⟩:∃m,n'=m+2:=⟨n'-2,O⟩;obtain⟨f1,f2,f3,f4⟩:=dW (n:=m+1) db zb nb;have bx:=db.Qn XY (m+1);rw[h9]at bx f2 f3 f4;have d1f:DG B9 [1000000000/(Qn b (m+1)+1)]:=DG.cons O f3 (DG.nil _);refine QJL 6 I<|QA (Qh I JC)<|QA (X3 I I O)<|QA (Q3 (n:=(m+2)) (m+1) (λF h9=>(h9.1.2).1) rfl wM JC JO O)<|QA (Q5 (n:=(m+2)) ((m+1)*1) (λF h9=>(h9.1.2).1) O rfl JO (J6 (o:=b) O))<|QA (Qw I I O)<|QA (SX I I O O O)<|Qb I (Q4 JC) JO SP I I λb52=>QJK 7 I ?_
 refine QI I (λ_ _ f k=>Ty f (ra:=⟨q',m+2,c'⟩) (rb:=⟨some ⟨b52,0,none⟩,1,1⟩) k.1.1.2 (XF.one k.2) (db) (d1f) O (by first | omega | (simp;done) | (simp;omega))) (λc55=>?_);rcases c55 with ⟨v55,l55⟩;dsimp only;refine JM _ (λw F hF ⟨⟨⟨⟨hA,hB⟩,_⟩,hs52⟩,⟨h55,h55p⟩⟩=>aO h55.2 h55p) (λp55=>wQ rfl<|QG ?_);obtain⟨⟨n55,c55⟩,d55,e55,z55,m55⟩:=p55;rw[QBu]at e55;have l55l:l55.length=m+2:=QEH db zb nb d55 z55 e55 f2 f4;obtain⟨qv,nv,cv⟩:=v55;dsimp only at n55 c55 ⊢;obtain rfl:nv=m+2:=O;have zv:0<Qn l55 (m+1):=wk ((dW (n:=m+1) d55 z55 l55l).1);have hlab:b.length<=a.length:=RV db da zb hge;refine wA 2 I<|QA (Qh I JC)<|QJK 5 I<|Ev (Q4 JC) JO λb58=>wB 2 I ?_
 refine QI I (λ_ _ f k=>Ty f (ra:=⟨q,n,c⟩) (rb:=⟨some ⟨b52,0,none⟩,1,1⟩) k.1.1.1.1 (XF.one k.1.2) (da) (d1f) O (by first | omega | (simp;done) | (simp;omega))) (λc61=>?_);rcases c61 with ⟨v61,l61⟩;dsimp only;refine JM _ (λw F hF ⟨⟨⟨⟨⟨hA,hB⟩,_⟩,hs52⟩,⟨h55,h55p⟩⟩,⟨h61,h61p⟩⟩=>aO h61.2 h61p) (λp61=>?_);obtain⟨⟨n61,c61⟩,d61,e61,z61,m61⟩:=p61;rw[QBu]at e61;have hpos:0<l61.length:=by
  rcases aB l61.length with g | g
  ·rw[ao g,kD]at e61;have:0<dv B9 a*(1000000000/(Qn b (m+1)+1)):=Int.mul_pos O O;omega
  exact g
 obtain⟨qa,na',ca⟩:=v61;dsimp only at n61 c61 ⊢;refine JM _ (λ_ _ f h=>h.2.1.1.ptr (by dsimp only;omega)) (λhq=>?_);obtain⟨qab,qao,hq⟩:=hq;dsimp only at hq;subst hq;simp only[aK]at m61;refine KB (bs1:=[]) (ob:=[(b58,.cells #[] 3 (0,0))]) (n:=0) (k:=na') (sz:=1) (olds:=[]) (news:=l61.map Jr) rfl rfl JC JO SP rfl OM (Q9.some (l:=[]) (rest:=[]) rfl rfl (ax _) (aJ _)) (Src.QIX (λF h=>h.2.1.1) O w6) O O (λv hv=>by obtain⟨x,_,rfl⟩:=List.mem_map.1 hv;rfl) (λv62 ob62 hr62=>QJK 5 I<|JV (ι:=QI4 a (1000000000/(Qn b (m+1)+1))) [(0,_),(8,_),(9,_),(10,_)] (λi=>[(11,i.v)]) (λi=>i.ob) (λi F=>True) (λi=>a.length+1-i.U.length) (⟨l61,v62,ob62,O,d61,e61,by rw[n61];simpa using hr62⟩) wV wS QIM w8 λi=>?_);simp only[ag,ah];have hle:=i.le;refine wA 4 I<|QA (O6 I i.hr JC)<|QH0 I<|QA (Qh I JC)<|QA (Qw I I O)<|QJK 3 I ?_
 refine QR I (λhc=>?_) λhc=>?_
 ·refine QJL 5 I<|Qb I (Q4 JC) JO SP I I λb70=>?_
  refine KB (bs1:=[]) (ob:=i.ob) (k:=1) (sz:=1) (news:=[.int .i64 0]) I I JC JO SP I OM i.hr (Src.row (off:=0) tB (λj v hv=>by rw[aU];show([.int .i64 0].toArray)[j]?=some v;rw[aF];exact hv) rfl) O O (Ke wS) (λv71 ob71 hr71=>?_);refine wB 2 I<|Qk ?_
  exact Qm (⟨i.U++[0],v71,ob71,by have:=QJG hc;simp;omega,i.du.append (DG.cons wu wu (DG.nil _)),by rw[X6,i.h];simp,by simpa[Jr]using hr71⟩) (by have:=QJG hc;show a.length+1-(i.U++[0]).length<a.length+1-i.U.length;rw[aC,aK];omega) wW QIM λF h=>⟨h.1.1,trivial⟩
 refine Qz ?_
 repeat first|refine QZ ?_|refine QQ wy ?_
 refine Qa<|QC<|QG ?_
 have hle0:=i.le;have hU:i.U.length=a.length+1:=wk<|QJH hc
 obtain⟨U0,vU,obU,hle0,du0,hU0,hr0⟩:=i;dsimp only at hU hle0 hU0 ⊢;rw[hU]at hr0;obtain⟨bu,cu,rest,rfl,rfl,hcu⟩:=hr0.big O;refine wA 2 I<|QA (Qh I JC)<|QH0 I<|QA (X3 I I O)<|Mq (n:=a.length+1-(m+2)) (bytes:=8) wM wM JC JO SP I OM O O λbq=>?_
 rw[show Xb [af .i64 0] (a.length+1-(m+2))=(bj (a.length+1-(m+2)) (0:Int)).map Jr by rw[Tj];simp[Jr]];refine Ze (List.Perm.swap _ _ _)<|QJK 7 I<|QA (Qh I JC)<|QH0 I<|QA (X3 I I O)<|QA (X3 I I O)<|wQ I<|QW<|JV (ι:=Cj a l55 (1000000000/(Qn b (m+1)+1)) (m+2)) [(8,_),(9,_),(10,_),(11,_),(12,_)] (λi2=>[(13,.int .i64 ((i2.k:Int)-1))]) (λi2=>[(bu,.cells (i2.U.map Jr++rest).toArray 3 (0,0)),(bq,.cells (i2.Q.map Jr).toArray 3 (0,0))]) (λi2 F=>True) (λi2=>i2.k) (Cj.start da db zb nb e55 f2 du0 hU hU0 O) wW ⟨(congrArg (λz:Int=>some (af .i64 z)) (by simp only[Cj.start];omega)),trivial⟩ QIM w8 λi2=>?_
 simp only[ag,ah];have hle2:=i2.le;have lu2:=i2.lu;have lq2:=i2.lq;refine wA 7 I ?_;refine QR I (λhc=>?_) λhc=>?_
 ·have hk0:0<i2.k:=wk<|QJG hc
  rw[show((i2.k:Int)-1)=((i2.k-1:Nat):Int) by omega];obtain⟨hst,hwe⟩:=i2.um d55 zv l55l hk0;have hz0:=i2.zero d55 l55l;refine QJL 9 I<|XW (bs1:=_) rfl (bK _) (QDw (rest:=rest) (U:=i2.U) (v:=l55) (j:=(i2.k-1)) (m:=m) (rv:=⟨qv,m+2,cv⟩) lu2 O O (λF h9=>h9.1.1.1.2.1) hst) λt89=>JM _ (λ_ _ f h=>h.2) λg89=>?_
  obtain⟨t0,t1,t2,t3⟩:=g89;rw[<-hwe]at t2 t3;refine QJK 15 I<|JV (ι:=QIx i2.U l55 (i2.k-1) t89) [(8,_),(9,_),(10,_),(11,_),(12,_),(13,_),(14,_)] (λi3=>[(15,.int .i64 (i3.br)),(16,.int .i64 ((i3.i:Nat):Int))]) (λi3=>[(bu,.cells (i3.U'.map Jr++rest).toArray 3 (0,0)),(bq,.cells (i2.Q.map Jr).toArray 3 (0,0))]) (λi3 F=>True) (λi3=>l55.length-i3.i) (⟨0,i2.U,0,aJ _,vc.start wu i2.du _ _⟩) wY wT QIM w8 λi3=>?_
  simp only[ag,ah];have hle3:=i3.le;have lU3:=i3.h.len;have br0:=i3.h.br0;have br1:=i3.h.br1;rw[h9]at br1;refine wA 8 I ?_;refine QR I (λhc=>?_) λhc=>?_
  ·have hi3:i3.i<m+2:=wk<|QJG hc
   have bd:=QFK TM ⟨t0,t1⟩ (d55.Qn XY i3.i) ⟨i3.h.br0,i3.h.br1⟩;simp only[h9]at bd;have bu3:=i3.h.dg.Qn XY ((i2.k-1)+i3.i);rw[h9]at bu3;have hd3:Qn i3.U' ((i2.k-1)+i3.i)=Qn i2.U ((i2.k-1)+i3.i):=Gb i3.h.hi (ax _);refine QJL 9 I<|QA (Q3 (n:=(m+2)) (i3.i) (λF h9=>(h9.1.1.1.1.1.2.1).1) rfl rfl JC JO O)<|QA (Q5 (n:=(m+2)) ((i3.i)*1) (λF h9=>(h9.1.1.1.1.1.2.1).1) O rfl JO (J6 (o:=l55) O))<|QA (M0 I I O)<|QH0 I<|QA (Qw I I O)<|QJK 8 I<|QA (Qw I I O)<|QA (JJ (i:=(i2.k-1)+i3.i) rfl wM JC JO O)<|QA (Vl (c:=(i3.U').map Jr++rest) (T':=3) rfl JO .here (V9 (by first | omega | (simp only[av];omega)))) ?_
   refine QH0 I<|QA (Hi I I O O)<|QA (X3 I I O)<|QJK 6 I<|QA (SX I I O O O)<|QJK 10 I ?_
   refine QR I (λhc=>?_) λhc=>?_
   ·have hx:=QJG hc;refine wR I<|QA (Qw I I O)<|QJK 5 I<|QA (Qw I I O)<|QJK 7 I<|QA (Qw I I O)<|QH0 I<|QA (JJ (i:=(i2.k-1)+i3.i) rfl wM JC JO O)<|QU (vs:=[_]) I I I JO I .here (DF (by first | omega | (simp only[av];omega)) (((Qn (i3.U') ((i2.k-1)+i3.i)-(((t89*Qn l55 (i3.i))+i3.br)%1000000000))+1000000000))) wS<|QE<|Qk<|QC<|QB ?_
    refine QH0 I<|QA (Qw I I O)<|wB 2 I ?_
    exact Qm (⟨i3.i+1,((i3.U').set ((i2.k-1)+i3.i) (((Qn (i3.U') ((i2.k-1)+i3.i)-(((t89*Qn l55 (i3.i))+i3.br)%1000000000))+1000000000))),((((t89*Qn l55 (i3.i))+i3.br)/1000000000)+1),O,i3.h.step O (by rw[h9];omega) (by rw[h9];omega) (by rw[h9,<-hd3];omega)⟩) (by show l55.length-(i3.i+1)<l55.length-i3.i;omega) we QIM λF h=>⟨h.1,trivial⟩
   have hx:=QJH hc;refine QJL 6 I<|QA (Qw I I O)<|QH0 I<|QA (JJ (i:=(i2.k-1)+i3.i) rfl wM JC JO O)<|QU (vs:=[_]) I I I JO I .here (DF (by first | omega | (simp only[av];omega)) ((Qn (i3.U') ((i2.k-1)+i3.i)-(((t89*Qn l55 (i3.i))+i3.br)%1000000000)))) wS<|QE<|Qk<|QJM 3 I<|QA (Qw I I O)<|wB 2 I ?_
   exact Qm (⟨i3.i+1,((i3.U').set ((i2.k-1)+i3.i) ((Qn (i3.U') ((i2.k-1)+i3.i)-(((t89*Qn l55 (i3.i))+i3.br)%1000000000)))),(((t89*Qn l55 (i3.i))+i3.br)/1000000000),O,i3.h.step O (by rw[h9];omega) (by rw[h9];omega) (by rw[h9,<-hd3];omega)⟩) (by show l55.length-(i3.i+1)<l55.length-i3.i;omega) we QIM λF h=>⟨h.1,trivial⟩
  have hi3:i3.i=m+2:=wk<|QJH hc
  refine Qz ?_
  repeat first|refine QZ ?_|refine QQ wy ?_
  refine Qa<|QC<|QG ?_
  have hs3:vc B9 i2.U l55 (i2.k-1) t89 (m+2) i3.U' i3.br:=by have:=i3.h;rw[hi3]at this;exact this
  have hd3:Qn i3.U' ((i2.k-1)+(m+2))=Qn i2.U ((i2.k-1)+(m+2)):=Gb hs3.hi (ax _);have hS:=hs3.stop TM l55l O;rw[<-hd3]at hS;have bu4:=i2.du.Qn XY ((i2.k-1)+(m+2));rw[h9,<-hd3]at bu4;have htp:=hS.tp;have hz1:dv B9 (i2.U.drop ((i2.k-1)+(m+2)+1))=0:=by rw[show(i2.k-1)+(m+2)+1=i2.k+(m+2) by omega];exact hz0
  refine wA 4 I<|QA (Qw I I O)<|wB 3 I<|QA (Qw I I O)<|QA (JJ (i:=(i2.k-1)+(m+2)) I wM JC JO O)<|QA (Vl (c:=(i3.U').map Jr++rest) (T':=3) rfl JO .here (V9 (by first | omega | (simp only[av];omega))))<|QH0 I<|QA (X3 I I O)<|QA (JJ (i:=(i2.k-1)+(m+2)) I wM JC JO O)<|QU (vs:=[_]) I I I JO I .here (DF (by first | omega | (simp only[av];omega)) ((Qn (i3.U') ((i2.k-1)+(m+2))-i3.br))) wS<|QJK 8 I<|QA (Qw I I O)<|QA (JJ (i:=(i2.k-1)+(m+2)) I wM JC JO O) ?_
  refine QA (Vl (c:=(((i3.U').set ((i2.k-1)+(m+2)) ((Qn (i3.U') ((i2.k-1)+(m+2))-i3.br)))).map Jr++rest) (T':=3) rfl JO .here (V9 (by first | omega | (simp only[av];omega))))<|QJK 3 I ?_
  refine QR I (λhc=>?_) λhc=>?_
  ·have hneg:Qn i3.U' ((i2.k-1)+(m+2))-i3.br<0:=by have:=QJG hc;rw[htp]at this;exact this
   refine wR I<|QA (X3 I I O)<|QJK 15 I<|JV (ι:=QJE (i3.U'.set ((i2.k-1)+(m+2)) (Qn i3.U' ((i2.k-1)+(m+2))-i3.br)) l55 (i2.k-1) (m+2)) [(8,_),(9,_),(10,_),(11,_),(12,_),(13,_),(14,_)] (λi4=>[(19,.int .i64 (i4.c)),(20,.int .i64 ((i4.i:Nat):Int))]) (λi4=>[(bu,.cells (i4.U'.map Jr++rest).toArray 3 (0,0)),(bq,.cells (i2.Q.map Jr).toArray 3 (0,0))]) (λi4 F=>True) (λi4=>m+2-i4.i) (⟨0,_,0,aJ _,Ij.start hS.dg⟩) wY wT QIM w8 λi4=>?_
   simp only[ag,ah];have hle4:=i4.le;have lU4:=i4.h.len;rw[av]at lU4;have c40:=i4.h.c0;have c41:=i4.h.c1;refine wA 8 I ?_;refine QR I (λhc=>?_) λhc=>?_
   ·have hi4:i4.i<m+2:=wk<|QJG hc
    have bu5:=i4.h.Qn TM hi4;have bv5:=d55.Qn XY i4.i;rw[h9]at bu5 bv5;have hd4:=Gb i4.h.hi (ax _);refine QJL 5 I<|JH QIM mixed wm<|QK (QD I)<|QK (QD I)<|QK (QD I)<|QK (Qw I I O)<|QK (JJ (i:=(i2.k-1)+i4.i) rfl wM JC JO O)<|QK (Vl (c:=(i4.U').map Jr++rest) (T':=3) rfl JO .here (V9 (by first | omega | (simp only[av];omega))))<|QK (QD I)<|QK (QD I)<|QK (Q3 (n:=(m+2)) (i4.i) (λF h9=>(h9.1.1.1.1.1.1.2.1).1) rfl rfl JC JO O)<|QK (Q5 (n:=(m+2)) ((i4.i)*1) (λF h9=>(h9.1.1.1.1.1.1.2.1).1) O rfl JO (J6 (o:=l55) O))<|QK (Qw I I O)<|QK (QD I)<|QK (Qw I I O)<|QK (QF I)<|Q7<|QJM 4 I ?_
    refine wB 2 I<|QA (Qw I I O)<|QH0 I<|QA (Hi I I O O)<|QA (JJ (i:=(i2.k-1)+i4.i) rfl wM JC JO O)<|QU (vs:=[_]) I I I JO I .here (DF (by first | omega | (simp only[av];omega)) ((((Qn (i4.U') ((i2.k-1)+i4.i)+Qn l55 (i4.i))+i4.c)%1000000000))) wS<|QJK 4 I<|QA (SX I I O O O)<|wB 2 I<|Qk<|QJM 3 I<|QA (Qw I I O)<|wB 2 I ?_
    exact Qm (⟨i4.i+1,((i4.U').set ((i2.k-1)+i4.i) ((((Qn (i4.U') ((i2.k-1)+i4.i)+Qn l55 (i4.i))+i4.c)%1000000000))),(((Qn (i4.U') ((i2.k-1)+i4.i)+Qn l55 (i4.i))+i4.c)/1000000000),O,i4.h.step hi4 (by rw[av];omega) (by rw[h9];omega) O (by rw[h9,<-hd4];omega)⟩) (by show m+2-(i4.i+1)<m+2-i4.i;omega) we QIM λF h=>⟨h.1,trivial⟩
   have hi4:i4.i=m+2:=wk<|QJH hc
   refine Qz ?_
   repeat first|refine QZ ?_|refine QQ wy ?_
   refine Qa<|QC ?_
   have hA4:Ig.Ij B9 (i3.U'.set ((i2.k-1)+(m+2)) (Qn i3.U' ((i2.k-1)+(m+2))-i3.br)) l55 (i2.k-1) (m+2) (m+2) i4.U' i4.c:=by have:=i4.h;rw[hi4]at this;exact this
   have hd5:Qn i4.U' ((i2.k-1)+(m+2))=Qn i3.U' ((i2.k-1)+(m+2))-i3.br:=by rw[Gb hA4.hi (ax _)];exact htp
   have hS5:uU B9 i2.U l55 (i2.k-1) (m+2) t89 (i3.U'.set ((i2.k-1)+(m+2)) (Qn i3.U' ((i2.k-1)+(m+2))-i3.br)) (Qn i4.U' ((i2.k-1)+(m+2))):=by rw[hd5];exact hS
   obtain⟨g1,g2,g3,g4,g5⟩:=hA4.QGz TM hS5 i2.du d55 l55l hz1 O (by rw[hd5];exact hneg) t2;have lU4:=i4.h.len;rw[av]at lU4;have b5:Qn i4.U' ((i2.k-1)+(m+2))=Qn i3.U' ((i2.k-1)+(m+2))-i3.br:=hd5;refine wA 4 I<|QA (Qw I I O)<|wB 3 I<|QA (Qw I I O)<|QA (JJ (i:=(i2.k-1)+(m+2)) I wM JC JO O)<|QA (Vl (c:=(i4.U').map Jr++rest) (T':=3) rfl JO .here (V9 (by first | omega | (simp only[av];omega))))<|QH0 I<|QA (Qw I I O)<|QA (JJ (i:=(i2.k-1)+(m+2)) I wM JC JO O)<|QU (vs:=[_]) I I I JO I .here (DF (by first | omega | (simp only[av];omega)) ((Qn (i4.U') ((i2.k-1)+(m+2))+i4.c))) wS<|QJK 6 I<|QA (JJ (i:=(i2.k-1)) I wM JC JO O)<|QU (vs:=[_]) I I I JO I .u1 (SG (by first | omega | (simp only[av];omega)) ((t89-1))) wS<|QE<|Qk ?_
   refine QJM 3 I<|QA (X3 I I O)<|wB 2 I ?_
   exact Qm (i2.next hk0 O (t:=t89-1) g4 O g1 g2 g3 g5) (by show i2.k-1<i2.k;omega) wX QIM λF h=>⟨h.1.1.1.1,trivial⟩
  have hneg:0<=Qn i3.U' ((i2.k-1)+(m+2))-i3.br:=by have:=QJH hc;rw[htp]at this;omega
  obtain⟨g1,g2,g3⟩:=hS.QGz TM O hneg (by rw[h9];omega) t3;refine QJL 6 I<|QA (JJ (i:=(i2.k-1)) I wM JC JO O)<|QU (vs:=[_]) I I I JO I .u1 (SG (by first | omega | (simp only[av];omega)) (t89)) wS<|QE<|Qk<|QJM 3 I<|QA (X3 I I O)<|wB 2 I ?_
  exact Qm (i2.next hk0 O (t:=t89) t0 t1 g1 g2 g3 hS.len) (by show i2.k-1<i2.k;omega) wX QIM λF h=>⟨h.1.1.1,trivial⟩
 have hk0:i2.k=0:=wk<|QJH hc
 refine Qz ?_
 repeat first|refine QZ ?_|refine QQ wy ?_
 refine Qa<|QC<|QG ?_
 obtain⟨s1,s2⟩:=i2.stop hk0 db da e55 f2 hb d55 l55l;have lt40:=VX (i2.U.take (m+2));rw[ay]at lt40;refine Eu (b:=bu) .here<|Eu (b:=bq) .here<|JH QIM mixed wm<|QK (QD I)<|QK (QD I)<|QK (NV (m+2) rfl rfl rfl JC JO O)<|QP I (λ_ _ f k=>Tw f (r:=⟨some ⟨bu,0,none⟩,m+2,cu⟩) ((XF.own k.1.2 i2.lu hcu).take O) (by rw[ay];omega)) λc196=>QK (QD I)<|QK (Q3 (n:=1) (0) (λF h9=>(Qx.of (n:=1) (sz:=1) h9.1.1.1.1.1.1.2 I)) I wM JC JO O)<|QK (Q5 (n:=1) ((0)*1) (λF h9=>(Qx.of (n:=1) (sz:=1) h9.1.1.1.1.1.1.2 I)) O rfl JO I)<|QP I (λ_ _ f k=>jY f (a:=Je (i2.U.take (m+2))) (ra:=⟨some ⟨bu,0,none⟩,(Je (i2.U.take (m+2))).length,cu⟩) k.2 ((i2.du.take _).Je) O (f2) (f3)) λc200=>QK (QD I)<|QK (QX I I)<|QK (QX I I)<|QK (QF I)<|QK (QF I)<|Q7<|QC<|wR I<|QI I (λ_ _ f k=>Tw f (r:=⟨some ⟨bq,0,none⟩,a.length+1-(m+2),a.length+1-(m+2)⟩) (XF.QId k.1.1.2 i2.lq (ax _)) O) λc204=>wB 3 I ?_
 refine QHz<|QY ?_
 exact Jd (((⟨some ⟨bq,0,none⟩,(Je i2.Q).length,a.length+1-(m+2)⟩,Je i2.Q),(c200.1.1,c200.1.2)):(Sr×List Int)×(Sr×List Int)) I (wO I I) (rfl) λF h9=>⟨⟨h9.2,i2.dq.Je,Zv _,by show dv B9 (Je i2.Q)=_;rw[ZE];exact s1⟩,h9.1.2.1,h9.1.2.2.1,h9.1.2.2.2.1,QDy O (by rw[<-s2,<-ZE];exact h9.1.2.2.2.2.2.2.1) h9.1.2.2.2.2.1 h9.1.2.2.2.2.2.1⟩
section
variable{P:Program}{N:Nat}{m:Sl}{S:World->Prop}{ty:TypeId}
def gF(P:Program)(T:TypeId):Bool:=match P.underlying T with
 |some .bool=>true
 |_=>false
def QFl(h:gF P T=true):P.underlying T=some .bool:=by
 unfold gF at h;split at h
 ·assumption
 cases h
theorem xz(hT:gF P T=true)(a b:Bool)(w:World):(Op.equal T (.bool a) (.bool b)).run P w = .ok (a==b) w:=by
 have e:∃n,Op.maxDepth=n+1:=⟨Op.maxDepth-1,wu⟩;obtain⟨n,e⟩:=e;unfold Op.equal;rw[e];unfold Op.equalIn;simp[run_underlying (QFl hT)]
theorem QGf{x y:Operand}{a b:Bool}(hT:gF P T=true)(hx:ev m x=some (.bool a))(hy:ev m y=some (.bool b)):Qt P N m S (.binOp .eql T x y yT) ty (.bool (a==b)):=λs w _ _ _ _ ha _=>by
 simp only[execOp,ha.ev hx,ha.ev hy,eqGuard,binOp,fF,fD,eY,xz hT];rfl
theorem QGe{x y:Operand}{a b:Bool}(hT:gF P T=true)(hx:ev m x=some (.bool a))(hy:ev m y=some (.bool b)):Qt P N m S (.binOp .neq T x y yT) ty (.bool (!(a==b))):=λs w _ _ _ _ ha _=>by
 simp only[execOp,ha.ev hx,ha.ev hy,eqGuard,binOp,fF,fD,eY,xz hT];rfl
end
structure Ri where
 neg:Bool
 r:Sr
 l:List Int
@[reducible] def Ri.v (x:Ri):Value:=.agg #[.bool x.neg,.slice x.r.q x.r.n x.r.cap]
def I4(neg:Bool)(l:List Int):Int:=if neg=true then -dv B9 l else dv B9 l
def E4(F:Gs)(x:Ri)(z:Int):Prop:=XF F x.r x.l/\DG B9 x.l/\NZ x.l/\z=I4 x.neg x.l/\(x.neg=true->0<dv B9 x.l)
def E4.le{F':Gs}{x:Ri}(h:E4 F x z)(k:Gs.le F F'):E4 F' x z:=⟨h.1.le k,h.2⟩
abbrev Iz(P:Program)(f:FuncId)(args:List Value)(w:World)(F:Gs)(z:Int):Prop:=QV P f args w F Ri.v λx F=>E4 F x z
structure R7(neg:Bool)(l:List Int)(z:Int):Prop where
 dg:DG B9 l
 nz:NZ l
 e:z=I4 neg l
 ng:neg=true->0<dv B9 l
def E4.p{x:Ri}(h:E4 F x z):R7 x.neg x.l z:=⟨h.2.1,h.2.2.1,h.2.2.2.1,h.2.2.2.2⟩
def R7.v0{neg:Bool}(h:R7 neg l z):0<=dv B9 l:=JG XY h.dg
def R7.abs{neg:Bool}(h:R7 neg l z):(z.natAbs:Int)=dv B9 l:=by
 have:=h.v0;rw[h.e,I4];split<;>omega
theorem QIi(h:DG B9 l)(z:NZ l):l.length<=sz (dv B9 l):=by
 rcases aB l.length with g | g
 ·omega
 have h1:=Rs XY h z (by intro e;rw[e]at g;simp at g);have h2:=E7 (dv B9 l);have h3:=JG XY h;rcases aW (sz (dv B9 l)) l.length with q | q
 ·exfalso;have h4:(2:Int)^(l.length-1)<=B9^(l.length-1):=by
   have:∀n:Nat,(2:Int)^n<=B9^n:=by
    intro n
    induction n with
    |zero=>simp
    |succ n ih =>
     rw[aQ,aQ];exact bQ ih wu wu (Int.le_of_lt (pow_pos XY n))
   exact this _
  have h5:(2:Int)^sz (dv B9 l)<=2^(l.length-1):=Ig.Xz wu O;have h6:((dv B9 l).natAbs:Int)<((2^sz (dv B9 l):Nat):Int):=Int.ofNat_lt.2 h2;rw[Int.natCast_pow]at h6;have:((2:Nat):Int)=2:=rfl;rw[this]at h6;omega
 exact q
def R7.len{neg:Bool}(h:R7 neg l z):l.length<=sz z:=by
 have:=QIi h.dg h.nz;have e:sz (dv B9 l)=sz z:=by
  rw[<-h.abs];unfold sz;simp
 omega
def R7.neg{neg:Bool}(h:R7 neg l z):neg=decide (z<0):=by
 have h0:=h.v0;cases neg with
 |true=>have:=h.ng I;have e:=h.e;simp only[I4,if_true]at e;symm;rw[decide_eq_true_eq];omega
 |false=>have e:=h.e;simp only[I4]at e;symm;rw[decide_eq_false_iff_not];simp at e;omega
def R7.zero{neg:Bool}(h:R7 neg l z):l=[]↔z=0:=by
 have:=W7 TM h.dg h.nz;have e:=h.abs;rw[<-this];omega
def QDd(h:DG B9 l):(0<(Je l).length)↔0<dv B9 l:=by
 have h1:=W7 TM h.Je (Zv l);rw[ZE]at h1;have h2:=JG XY h;rw[<-eT]at h1;omega
theorem Hh{r:Sr}{neg:Bool}(hF:Fits F w)(hR:XF F r l)(dg:DG B9 l)(hl:l.length<=1000000000):Iz prog 122 [.bool neg,r.v] w F (I4 neg l):=by
 obtain⟨q,n,c⟩:=r;have hn:=hR.2.1;dsimp only[Sr.v]at hn ⊢;have hlz:=VX l;have htp:=QDd dg;have hv0:=JG XY dg;refine QV.intro (G:=λF=>XF F ⟨q,n,c⟩ l) func122 rfl wy rfl rfl hF (λF' hF'=>hR.le hF')<|QI7<|Qc Dp λb4=>QHz<|wR rfl<|QI rfl (λ_ _ f k=>Tw f (r:=⟨q,n,c⟩) k (hl)) λc6=>wQ rfl<|wR rfl<|QH0 rfl ?_
 refine Ql (t:=8) rfl (λhb8=>?_) λhb8=>?_
 ·refine wB 3 I<|QA (Qh I JC)<|wB 4 I<|QA (Q2 I QF5 Dp (wP I I I))<|QU (vs:=[_,_]) I I I Xg I .here .h2 wT<|QHz<|QY ?_
  exact QS ((⟨decide ((((Je l).length:Nat):Int)>0),⟨q,(Je l).length,c⟩,Je l⟩:Ri)) I (.JX (c:=[_,_]) I Xg .here .nil) (rfl) λF ⟨hR,h6⟩=>⟨h6,dg.Je,Zv _,by show I4 neg l=I4 (decide ((((Je l).length:Nat):Int)>0)) (Je l);rw[I4,I4,ZE];cases neg<;>simp_all<;>omega,λhh=>by show 0<dv B9 (Je l);rw[ZE];simp_all⟩
 refine wB 5 I<|QA (Q2 I QF5 Dp (wP I I I))<|QU (vs:=[_,_]) I I I Xg I .here .h2 wT<|QHz<|QY ?_
 exact QS ((⟨false,⟨q,(Je l).length,c⟩,Je l⟩:Ri)) I (.JX (c:=[_,_]) I Xg .here .nil) (rfl) λF ⟨hR,h6⟩=>⟨h6,dg.Je,Zv _,by show I4 neg l=I4 false (Je l);rw[I4,I4,ZE];cases neg<;>simp_all<;>omega,λhh=>by show 0<dv B9 (Je l);rw[ZE];simp_all⟩
theorem QCj:gF prog 4=true:=wm
def QFj{x y:Int}(h:YE x y>=0):y<=x:=by
 unfold YE at h;split at h
 ·omega
 split at h<;>omega
def QEg{x y:Int}(h:¬YE x y>=0):x<=y:=by
 unfold YE at h;split at h
 ·omega
 split at h<;>omega
theorem uu{x:Ri}(hF:Fits F w)(hx:E4 F x zx)(hz:sz zx<=1000000):Iz prog 119 [x.v] w F (-zx):=by
 obtain⟨xn,⟨xq,xm,xc⟩,xl⟩:=x;have px:=hx.p;have lx:=px.len;have kx:=hx.1.2.1;have vx:=px.v0;dsimp only at px lx kx vx;dsimp only[Ri.v];have eqn : -zx=I4 (!xn) xl:=by rw[px.e];cases xn<;>simp[I4]
 refine QV.intro (G:=λF=>E4 F ⟨xn,⟨xq,xm,xc⟩,xl⟩ zx) func119 rfl wy rfl rfl hF (λF' hF'=>hx.le hF')<|QI7<|Qs rfl (vs:=[_,_]) rfl λb1=>Qc Dp λb2=>QHz<|QI7<|QA (QH rfl Rh SA)<|QA (Qf rfl SA .u1 .h1)<|QA (XB rfl)<|QA (QH rfl WY Jz)<|QA (Qf rfl Jz .u1 (.skip .h1))<|QI rfl (λ_ _ f k=>Hh f (r:=⟨xq,xm,xc⟩) (l:=xl) (neg:=!xn) k.1 (px.dg) O) λc8=>QU (vs:=[_,_]) rfl rfl rfl Xg rfl .here .h2 wT<|QHz<|QY ?_
 exact QS (c8) rfl (.JX (c:=[_,_]) I Xg .here .nil) (rfl) λF h9=>(by rw[eqn];exact h9.2)
theorem DD{x y:Ri}{zy:Int}(hF:Fits F w)(hx:E4 F x zx)(hy:E4 F y zy)(hzx:sz zx<=1000000)(hzy:sz zy<=1000000):Iz prog 56 [x.v,y.v] w F (zx*zy):=by
 obtain⟨xn,⟨xq,xm,xc⟩,xl⟩:=x;have px:=hx.p;have lx:=px.len;have kx:=hx.1.2.1;have vx:=px.v0;dsimp only at px lx kx vx;obtain⟨yn,⟨yq,ym,yc⟩,yl⟩:=y;have py:=hy.p;have ly:=py.len;have ky:=hy.1.2.1;have vy:=py.v0;dsimp only at py ly ky vy;dsimp only[Ri.v];refine QV.intro (G:=λF=>E4 F ⟨xn,⟨xq,xm,xc⟩,xl⟩ zx/\E4 F ⟨yn,⟨yq,ym,yc⟩,yl⟩ zy) func56 rfl wy rfl rfl hF (λF' hF'=>⟨hx.le hF',hy.le hF'⟩)<|QI7<|Qs rfl (vs:=[_,_]) rfl λb2=>Qs rfl (vs:=[_,_]) rfl λb3=>Qc Dp λb4=>QHz<|QG<|JH (.cons _ tC) mixed wm<|QK (QH rfl Rh SA)<|QK (Qf rfl SA .u1 .h1)<|QK (QH rfl Rh SA)<|QK (Qf rfl SA .here .h1)<|QK (QGe QCj rfl rfl)<|QK (QH rfl WY Jz)<|QK (Qf rfl Jz .u1 (.skip .h1))<|QK (QH rfl WY Jz)<|QK (Qf rfl Jz .here (.skip .h1)) ?_
 refine QP I (λ_ _ f k=>Ty f (a:=xl) (b:=yl) (ra:=⟨xq,xm,xc⟩) (rb:=⟨yq,ym,yc⟩) k.1.1 (k.2.1) (px.dg) (py.dg) O (by first | omega | (simp;done) | (simp;omega))) (λc14=>?_);rcases c14 with ⟨v14,l14⟩;dsimp only;refine YU _ (λw F hF ⟨⟨hx,hy⟩,⟨h14,h14p⟩⟩=>aO h14.2 h14p) (λp14=>?_);have eqn:zx*zy=I4 (!(xn==yn)) l14:=by
  have e14:=p14.2.2.1;rw[px.e,py.e];unfold I4;rw[e14];cases xn<;>cases yn<;>simp[fK,Int.neg_mul]
 have m14:=p14.2.2.2.2;refine QP I (λ_ _ f k=>Hh f (r:=v14) (l:=l14) (neg:=!(xn==yn)) k.2.1 (p14.2.1) O) (λc15=>JR (vs:=[_,_]) I I I Xg I .here tC (λ_ h=>h.1.1) .h2 wT<|Q7<|QC<|QY ?_);exact QS (c15) rfl (.JX (c:=[_,_]) I Xg .here .nil) (rfl) λF h9=>(by rw[eqn];exact h9.2)
theorem QCR{x y:Ri}{zy:Int}(hF:Fits F w)(hx:E4 F x zx)(hy:E4 F y zy)(hzx:sz zx<=1000000)(hzy:sz zy<=1000000):Iz prog 55 [x.v,y.v] w F (zx+zy):=by
 obtain⟨xn,⟨xq,xm,xc⟩,xl⟩:=x;have px:=hx.p;have lx:=px.len;have kx:=hx.1.2.1;have vx:=px.v0;dsimp only at px lx kx vx;obtain⟨yn,⟨yq,ym,yc⟩,yl⟩:=y;have py:=hy.p;have ly:=py.len;have ky:=hy.1.2.1;have vy:=py.v0;dsimp only at py ly ky vy;dsimp only[Ri.v];refine QV.intro (G:=λF=>E4 F ⟨xn,⟨xq,xm,xc⟩,xl⟩ zx/\E4 F ⟨yn,⟨yq,ym,yc⟩,yl⟩ zy) func55 rfl wy rfl rfl hF (λF' hF'=>⟨hx.le hF',hy.le hF'⟩)<|QI7<|Qs rfl (vs:=[_,_]) rfl λb2=>Qs rfl (vs:=[_,_]) rfl λb3=>Qc Dp λb4=>QJK 5 I<|QA (QH rfl Rh SA)<|QA (Qf rfl SA .u2 .h1)<|QA (QH rfl Rh SA)<|QA (Qf rfl SA .u1 .h1)<|QA (QGf QCj rfl rfl)<|QE<|QC ?_
 refine QR I (λhc=>?_) λhc=>?_
 ·have hne:xn=yn:=by simpa using hc
  refine QG<|JH (.cons _ tC) mixed wm<|QK (QH I Rh SA)<|QK (Qf I SA .u1 .h1)<|QK (QH I WY Jz)<|QK (Qf I Jz .u1 (.skip .h1))<|QK (QH I WY Jz)<|QK (Qf I Jz .here (.skip .h1)) ?_
  refine QP I (λ_ _ f k=>dE f (a:=xl) (b:=yl) (ra:=⟨xq,xm,xc⟩) (rb:=⟨yq,ym,yc⟩) k.1.1 (k.2.1) (px.dg) (py.dg) O (by first | omega | (simp;done) | (simp;omega))) (λc16=>?_);rcases c16 with ⟨v16,l16⟩;dsimp only;refine YU _ (λw F hF ⟨⟨hx,hy⟩,⟨h16,h16p⟩⟩=>aO h16.2 h16p) (λp16=>?_);have eqn:zx+zy=I4 xn l16:=by
   have e16:=p16.2.2.1;rw[px.e,py.e,hne];unfold I4;rw[e16];cases yn<;>simp<;>omega
  have m16:=p16.2.2.2;refine QP I (λ_ _ f k=>Hh f (r:=v16) (l:=l16) (neg:=xn) k.2.1 (p16.2.1) O) (λc17=>JR (vs:=[_,_]) I I I Xg I .here tC (λ_ h=>h.1.1) .h2 wT<|Q7<|QC<|QY ?_);exact QS (c17) rfl (.JX (c:=[_,_]) I Xg .here .nil) (rfl) λF h9=>(by rw[eqn];exact h9.2)
 have hne:xn=!yn:=by cases xn<;>cases yn<;>simp_all
 refine QJL 5 I<|QA (QH I WY Jz)<|QA (Qf I Jz .u2 (.skip .h1))<|QA (QH I WY Jz)<|QA (Qf I Jz .u1 (.skip .h1))<|QI I (λ_ _ f k=>S2 f (a:=xl) (b:=yl) (ra:=⟨xq,xm,xc⟩) (rb:=⟨yq,ym,yc⟩) k.1.1 (k.2.1) (px.dg) (py.dg) (px.nz) (py.nz) O O) λ_=>QJK 3 I ?_
 refine QR I (λhc=>?_) λhc=>?_
 ·have hle:dv B9 yl<=dv B9 xl:=QFj (QJG hc);have hll:=RV py.dg px.dg py.nz hle;refine QG<|JH (.cons _ tC) mixed wm<|QK (QH I Rh SA)<|QK (Qf I SA .u1 .h1)<|QK (QH I WY Jz)<|QK (Qf I Jz .u1 (.skip .h1))<|QK (QH I WY Jz)<|QK (Qf I Jz .here (.skip .h1)) ?_
  refine QP I (λ_ _ f k=>Ox f (a:=xl) (b:=yl) (ra:=⟨xq,xm,xc⟩) (rb:=⟨yq,ym,yc⟩) k.1.1.1 (k.1.2.1) (px.dg) (py.dg) O O (hle)) (λc30=>?_);rcases c30 with ⟨v30,l30⟩;dsimp only;refine YU _ (λw F hF ⟨⟨⟨hx,hy⟩,_⟩,⟨h30,h30p⟩⟩=>aO h30.2 h30p) (λp30=>?_);have eqn:zx+zy=I4 xn l30:=by
   have e30:=p30.2.2.1;rw[px.e,py.e,hne];unfold I4;rw[e30];cases yn<;>simp<;>omega
  have m30:=p30.2.2.2;refine QP I (λ_ _ f k=>Hh f (r:=v30) (l:=l30) (neg:=xn) k.2.1 (p30.2.1) O) (λc31=>JR (vs:=[_,_]) I I I Xg I .here tC (λ_ h=>h.1.1) .h2 wT<|Q7<|QC<|QY ?_);exact QS (c31) rfl (.JX (c:=[_,_]) I Xg .here .nil) (rfl) λF h9=>(by rw[eqn];exact h9.2)
 have hle:dv B9 xl<=dv B9 yl:=QEg (QJH hc);have hll:=RV px.dg py.dg px.nz hle;refine QJL 3 I<|JH (.cons _ tC) mixed wm<|QK (QH I Rh SA)<|QK (Qf I SA .here .h1)<|QK (QH I WY Jz)<|QK (Qf I Jz .here (.skip .h1))<|QK (QH I WY Jz)<|QK (Qf I Jz .u1 (.skip .h1)) ?_
 refine QP I (λ_ _ f k=>Ox f (a:=yl) (b:=xl) (ra:=⟨yq,ym,yc⟩) (rb:=⟨xq,xm,xc⟩) k.1.2.1 (k.1.1.1) (py.dg) (px.dg) O O (hle)) (λc38=>?_);rcases c38 with ⟨v38,l38⟩;dsimp only;refine YU _ (λw F hF ⟨⟨⟨hx,hy⟩,_⟩,⟨h38,h38p⟩⟩=>aO h38.2 h38p) (λp38=>?_);have eqn:zx+zy=I4 yn l38:=by
  have e38:=p38.2.2.1;rw[px.e,py.e,hne];unfold I4;rw[e38];cases yn<;>simp<;>omega
 have m38:=p38.2.2.2;refine QP I (λ_ _ f k=>Hh f (r:=v38) (l:=l38) (neg:=yn) k.2.1 (p38.2.1) O) (λc39=>JR (vs:=[_,_]) I I I Xg I .here tC (λ_ h=>h.1.1) .h2 wT<|Q7<|QC<|QY ?_);exact QS (c39) rfl (.JX (c:=[_,_]) I Xg .here .nil) (rfl) λF h9=>(by rw[eqn];exact h9.2)
structure QJB(A B:Int) where
 ra:Sr
 rb:Sr
 a:List Int
 b:List Int
 da:DG B9 a
 db:DG B9 b
 za:NZ a
 zb:NZ b
 la:a.length<=10000000
 lb:b.length<=10000000
 nb:b.length=rb.n
 h:aZ (dv B9 a) (dv B9 b)=aZ A B
def QDA(x y:Int):aZ y (x%y)=aZ x y:=by
 rw[Int.gcd_comm y,fC]
 first | rw[Int.gcd_sub_mul_left_left] | rw[Int.gcd_sub_mul_right_left] | rw[Int.gcd_sub_mul_left] | simp
theorem vm(hF:Fits F w)(hA:XF F ra a)(hB:XF F rb b)(da:DG B9 a)(db:DG B9 b)(za:NZ a)(zb:NZ b)(la:a.length<=10000000)(lb:b.length<=10000000):
  QV prog 105 [ra.v,rb.v] w F (λ(c:Sr×List Int)=>.slice c.1.q c.1.n c.1.cap) (λc F=>XF F c.1 c.2/\DG B9 c.2/\NZ c.2/\dv B9 c.2=(aZ (dv B9 a) (dv B9 b):Int)):=by
 refine QV.intro (G:=λF=>XF F ra a/\XF F rb b) func105 rfl wy rfl rfl hF (λF' hF'=>⟨hA.le hF',hB.le hF'⟩)<|QI7<|wQ rfl<|QG<|QW<|JV (ι:=QJB (dv B9 a) (dv B9 b)) [] (λi=>[(0,.slice i.ra.q i.ra.n i.ra.cap),(1,.slice i.rb.q i.rb.n i.rb.cap)]) (λi=>[]) (λi F=>XF F i.ra i.a/\XF F i.rb i.b) (λi=>(dv B9 i.b).toNat) (⟨ra,rb,a,b,da,db,za,zb,la,lb,hB.2.1,rfl⟩) trivial wT QIM w9 λi=>?_
 simp only[ag,ah];have hla:=i.la;have hlb:=i.lb;have hnb:=i.nb;refine wA 4 I<|QA (Qh I JC)<|QJK 3 I ?_
 refine QR I (λhc=>?_) λhc=>?_
 ·have hpos:0<dv B9 i.b:=by
   have h1:=W7 TM i.db i.zb;have h2:=JG XY i.db;rw[<-eT]at h1;have:=QJG hc;omega
  have hm0:=bY (dv B9 i.a) (Int.ne_of_gt hpos);have hm1:=bR (dv B9 i.a) hpos;refine QJL 3 I<|wR rfl<|QH0 rfl<|QI rfl (λ_ _ f k=>T7 f (a:=i.a) (b:=i.b) (ra:=i.ra) (rb:=i.rb) k.2.1 (k.2.2) (i.da) (i.db) (i.za) (i.zb) (hpos) O O) λc13=>QH0 rfl<|QA (QX rfl rfl)<|QA (QX rfl rfl)<|QH1 rfl<|wQ rfl<|XS _ (λ_ _ f h=>aO h.2.2.2 h.2.2.1.2.1) λq13=>?_
  obtain⟨q13,n13⟩:=q13;refine wA 6 I<|Qk ?_
  exact Qm (⟨i.rb,c13.2.1,i.b,c13.2.2,i.db,q13.1,i.zb,q13.2.1,i.lb,by have:=RV q13.1 i.db q13.2.1 (by rw[q13.2.2];omega);omega,n13,by rw[q13.2.2,QDA];exact i.h⟩) (by show(dv B9 c13.2.2).toNat<(dv B9 i.b).toNat;rw[q13.2.2];omega) wT QIM λF h9=>⟨⟨h9.1.1.1,h9.1.1.2⟩,⟨h9.1.2.2,h9.2.2.1⟩⟩
 have hz:i.b=[]:=by
  have:=QJH hc;exact ao O
 refine Qz ?_
 repeat first|refine QZ ?_|refine QQ wy ?_
 refine Qa<|QJM 8 I ?_
 exact QS ((i.ra,i.a):Sr×List Int) rfl (wN I) (rfl) λF h9=>⟨h9.2.1,i.da,i.za,by have e:=i.h;rw[hz,kD,Int.gcd_zero_right]at e;have:=JG XY i.da;show dv B9 i.a=_;omega⟩
section
variable{P:Program}{N:Nat}{m:Sl}{S:World->Prop}{ty:TypeId}
def QD2{x y:Operand}{a b:Int}(hx:ev m x=some (.int .i64 a))(hy:ev m y=some (.int .i64 b))(h:1<b)(h0 : -9223372036854775808<=a)(h1:a<=9223372036854775807):Qt P N m S (.binOp .quo T x y yT) ty (.int .i64 (a.tdiv b)):=by
 have:=vp (P:=P) (N:=N) (m:=m) (S:=S) (ty:=ty) (T:=T) (yT:=yT) hx hy O;have e:=eI a b;have e2:a.natAbs.div b.natAbs<=a.natAbs:=eH _ _;have e3:a.natAbs.div b.natAbs<=a.natAbs/2:=Nat.div_le_div_left O wu;rw[eD _ O]at this;exact this
end
def gq(neg:Bool)(m:Nat):Int:=if neg=true then -(m:Int)else(m:Int)
def QFM(neg:Bool)(m:Nat):(gq neg m).tmod 1000000000=gq neg (m%1000000000):=by
 unfold gq;split
 ·rw[Int.neg_tmod];exact congrArg Neg.neg (fg m 1000000000).symm
 exact(fg m 1000000000).symm
def QCO(neg:Bool)(m:Nat):(gq neg m).tdiv 1000000000=gq neg (m/1000000000):=by
 unfold gq;split
 ·rw[Int.neg_tdiv];exact congrArg Neg.neg (fh m 1000000000).symm
 exact(fh m 1000000000).symm
def QDp(n:Int):n=gq (decide (n<0)) n.natAbs:=by
 unfold gq;by_cases h:n<0
 ·simp[h];omega
 simp[h];omega
def C3(neg:Bool)(m:Nat):gq neg m=m\/gq neg m = -(m:Int):=by
 unfold gq;split
 ·exact .inr rfl
 exact .inl rfl
structure WhI(M:Nat) where
 m:Nat
 out:List Int
 v:Value
 ob:List (Nat×Obj)
 le:m<=M
 l3:out.length<=3
 dg:DG B9 out
 h:dv B9 out+B9^out.length*(m:Int)=M
 hr:Q9 3 1 v out.length (out.map Jr) ob
def WhI.two{M:Nat}(i:WhI M)(hM:M<=9223372036854775808)(h0:0<i.m):i.out.length<=2:=by
 rcases aW 2 i.out.length with g | g
 ·exfalso;have e:i.out.length=3:=wk i.l3;have h:=i.h;have h1:=JG XY i.dg;rw[e]at h;have h2:B9^3*1<=B9^3*(i.m:Int):=ai O wu;have h3:B9^3=1000000000000000000000000000:=wu;rw[h3]at h2 h;omega
 exact g
def QCI{m M:Nat}(h:dv B9 l+B9^l.length*(m:Int)=M):dv B9 (l++[((m%1000000000:Nat):Int)])+B9^(l++[((m%1000000000:Nat):Int)]).length*((m/1000000000:Nat):Int)=M:=by
 rw[X6,aC,aK,aQ,bU,fk,<-bM,<-h];have e:((m%1000000000:Nat):Int)+B9*((m/1000000000:Nat):Int)=m:=by
  have h9:B9=1000000000:=rfl;rw[h9];omega
 rw[e]
theorem Iq{n:Int}(hF:Fits F w)(hn : -9223372036854775808<=n/\n<=9223372036854775807):Iz prog 57 [.int .i64 n] w F n:=by
 refine QV.intro (G:=λF=>True) func57 rfl wy rfl rfl hF w8<|QI7<|Qc Dp λb2=>QHz<|QI7<|wQ rfl<|wR rfl<|QA (QT rfl rfl rfl)<|wQ rfl<|QG<|QW<|JV (ι:=WhI n.natAbs) [(2,_),(4,_)] (λi=>[(0,.int .i64 (gq (decide (n<0)) i.m)),(3,i.v)]) (λi=>(b2,.cells [.bool false,.slice none 0 0].toArray 97 (0,0))::i.ob) (λi F=>True) (λi=>i.m) (⟨n.natAbs,[],.slice none 0 0,[],ax _,wz,DG.nil _,wz,.nil⟩) wT ⟨congrArg (λz:Int=>some (af .i64 z)) (QDp n),rfl,trivial⟩ QIM w8 λi=>?_
 simp only[ag,ah];have hle:=i.le;have hM:n.natAbs<=9223372036854775808:=O;have hcs:=C3 (decide (n<0)) i.m;have hsr : -9223372036854775808<=gq (decide (n<0)) i.m/\gq (decide (n<0)) i.m<=9223372036854775807:=by unfold gq;split<;>rename_i g<;>simp at g<;>omega
 refine wA 7 I ?_;refine QR I (λhc=>?_) λhc=>?_
 ·have h9:B9=1000000000:=rfl;have hm0:0<i.m:=by
   rcases aB i.m with g | g
   ·rw[g]at hc;cases hd:decide (n<0)<;>simp[gq,hd]at hc
   exact g
  have l2:=i.two hM hm0;refine QJL 6 I<|QA (QCV I I wu) ?_
  rw[QFM];refine QJK 10 I ?_;refine QR I (λhc=>?_) λhc=>?_
  ·have e1:gq (decide (n<0)) (i.m%1000000000) = -(((i.m%1000000000):Nat):Int):=by
    have:=QJG hc;rcases C3 (decide (n<0)) (i.m%1000000000)with g | g<;>omega
   rw[e1];refine wA 2 I<|QA (X3 I I O)<|QJK 7 I<|Qb I (Q4 JC) JO SP I I λb18=>Ze (bs':=[(b2,.cells [.bool false,.slice none 0 0].toArray 97 (0,0))]++i.ob) (bK _) ?_
   refine KB (ob:=i.ob) (k:=1) (sz:=1) (news:=[.int .i64 (0 - -(((i.m%1000000000):Nat):Int))]) I I JC JO SP I OM i.hr (Src.row (off:=0) tB (λj v hv=>by rw[aU];show([.int .i64 (0 - -(((i.m%1000000000):Nat):Int))].toArray)[j]?=some v;rw[aF];exact hv) rfl) O O (Ke wS) (λv19 ob19 hr19=>?_);refine QJK 5 I<|QA (QD2 I I wu O O) ?_
   rw[QCO];refine wB 2 I<|Qk ?_
   exact Qm (⟨i.m/1000000000,i.out++[(((i.m%1000000000):Nat):Int)],v19,ob19,O,by rw[aC,aK];omega,i.dg.append (DG.cons O (by show _<B9;rw[h9];omega) (DG.nil _)),QCI i.h,by simpa[Jr]using hr19⟩) (by show i.m/1000000000<i.m;omega) wV QIM λF h=>⟨h.1.1,trivial⟩
  have e1:gq (decide (n<0)) (i.m%1000000000)=(((i.m%1000000000):Nat):Int):=by
   have:=QJH hc;rcases C3 (decide (n<0)) (i.m%1000000000)with g | g<;>omega
  rw[e1];refine QJL 6 I<|Qb I (Q4 JC) JO SP I I λb18=>Ze (bs':=[(b2,.cells [.bool false,.slice none 0 0].toArray 97 (0,0))]++i.ob) (bK _) ?_
  refine KB (ob:=i.ob) (k:=1) (sz:=1) (news:=[.int .i64 ((((i.m%1000000000):Nat):Int))]) I I JC JO SP I OM i.hr (Src.row (off:=0) tB (λj v hv=>by rw[aU];show([.int .i64 ((((i.m%1000000000):Nat):Int))].toArray)[j]?=some v;rw[aF];exact hv) rfl) O O (Ke wS) (λv19 ob19 hr19=>?_);refine QJK 5 I<|QA (QD2 I I wu O O) ?_
  rw[QCO];refine wB 2 I<|Qk ?_
  exact Qm (⟨i.m/1000000000,i.out++[(((i.m%1000000000):Nat):Int)],v19,ob19,O,by rw[aC,aK];omega,i.dg.append (DG.cons O (by show _<B9;rw[h9];omega) (DG.nil _)),QCI i.h,by simpa[Jr]using hr19⟩) (by show i.m/1000000000<i.m;omega) wV QIM λF h=>⟨h.1.1,trivial⟩
 have hm0:i.m=0:=by
  rcases hcs with g | g
  ·rw[g]at hc;simp at hc;exact hc
  rw[g]at hc;simp at hc;exact hc
 refine Qz ?_
 repeat first|refine QZ ?_|refine QQ wy ?_
 refine Qa<|QC<|QG ?_
 have hfin:=i.h;rw[hm0]at hfin;have l3:=i.l3;obtain⟨r,hv,hrn,hrc,hfix⟩:=Q9.fix (w0:=w) (F0:=F) (bs1:=[(b2,.cells [.bool false,.slice none 0 0].toArray 97 (0,0))]) (G:=λF=>True/\True) i.hr;refine jc hfix ?_;rw[hv];refine wA 3 I<|QI I (λ_ _ f k=>Hh f (r:=r) (l:=i.out) (neg:=decide (n<0)) ⟨by rw[hrn];exact k.2,by rw[hrn],O⟩ (i.dg) O) λc24=>QU (vs:=[_,_]) I I I Xg I .here .h2 wT<|QHz<|QY ?_
 have e:n=I4 (decide (n<0)) i.out:=by
  have e2:=QDp n;unfold I4;unfold gq at e2;split at e2<;>rename_i hs<;>simp only[hs]<;>simp<;>omega
 exact QS (c24) rfl (.JX (c:=[_,_]) I Xg .here .nil) (rfl) λF ⟨⟨⟨hT,_⟩,hX⟩,h24⟩=>(by rw[<-e]at h24;exact h24)
theorem SE{x:Int}{least:Nat}(hF:Fits F w)(h0:0<=x)(hn:x<=9223372036854775807)(hl:least<=1000):Qg prog 59 [.int .i64 x,.int .i64 (least:Int)] w F (tx (qw x.toNat least)):=by
 have:=QAt (n:=x.toNat) (least:=least) hF O hl;rw[eu h0]at this;exact this
def kI(h:0<n):qw n 1=aj n:=by
 have hne:(aj n).length≠0:=λe=>Vr n (ao e);unfold qw hd Hv;rw[if_neg O,show 1-(aj n).length=0 by omega];rfl
def gA(n:Nat):qw n 9=Hv 9 (aj n):=by
 unfold qw hd;split
 ·rename_i h;subst h;rw[Ya];decide
 rfl
theorem I8(h:n<1000000000):(qw n 9).length=9:=by
 rw[gA,cF];have:=Kg (u:=n) (k:=9) O wu;rw[bm];exact this
structure TxI(l:List Int) where
 k:Nat
 s:List UInt8
 le:k<l.length
 ps:0<dv B9 (l.drop k)
 sl:s.length<=20+9*(l.length-k)
 h:s=aj (dv B9 (l.drop k)).toNat
theorem Iu(hd:DG B9 l)(hz:NZ l)(h0:0<l.length):dv B9 (l.drop (l.length-1))=Qn l (l.length-1)/\0<Qn l (l.length-1):=by
 have e:=Xo (l:=l) (k:=l.length-1) O;rw[bF (i:=l.length-1+1) O]at e;refine⟨by rw[e];simp[dv],?_⟩;obtain⟨h1,_⟩:=dW (n:=l.length-1) hd hz O;omega
def TxI.start{l:List Int}(hd:DG B9 l)(hz:NZ l)(h0:0<l.length):TxI l:=⟨l.length-1,qw (Qn l (l.length-1)).toNat 1,O,by rw[(Iu hd hz h0).1];exact(Iu hd hz h0).2,by
  have b:=hd.Qn XY (l.length-1);have h9:B9=1000000000:=rfl;rw[kI (wk<|(Iu hd hz h0).2),bm];have:=Kg (u:=(Qn l (l.length-1)).toNat) (k:=9) (by rw[h9]at b;omega) wu;omega,by
  rw[kI (wk<|(Iu hd hz h0).2),(Iu hd hz h0).1]⟩
def TxI.add(i:TxI l)(hd:DG B9 l)(hk:0<i.k):dv B9 (l.drop (i.k-1))=Qn l (i.k-1)+B9*dv B9 (l.drop i.k):=by
 have hle:=i.le;rw[Xo O,VV,show i.k-1+1=i.k by omega]
def TxI.next{l:List Int}(i:TxI l)(hd:DG B9 l)(hk:0<i.k):TxI l:=⟨i.k-1,i.s++qw (Qn l (i.k-1)).toNat 9,wk i.le,by
  rw[i.add hd hk];have b:=hd.Qn XY (i.k-1);have p:=i.ps;have:B9*1<=B9*dv B9 (l.drop i.k):=ai O wu;have h9:B9=1000000000:=rfl;omega,by
  have b:=hd.Qn XY (i.k-1);have h9:B9=1000000000:=rfl;rw[h9]at b;have hle:=i.le;have hsl:=i.sl;rw[aC,I8 O];omega,by
  have b:=hd.Qn XY (i.k-1);have h9:B9=1000000000:=rfl;rw[h9]at b;have p:=i.ps;have e:=We (q:=(dv B9 (l.drop i.k)).toNat) O 9 (Qn l (i.k-1)).toNat wu O;rw[gA,i.h,<-e,i.add hd hk];congr 1;generalize dv B9 (l.drop i.k)=D at *
  rw[h9];omega⟩
theorem gz{x:Ri}(hF:Fits F w)(hx:E4 F x zx)(hz:sz zx<=1000000):Qg prog 121 [x.v] w F (tx (Zi zx)):=by
 obtain⟨xn,⟨xq,xm,xc⟩,xl⟩:=x;have px:=hx.p;have lx:=px.len;have kx:=hx.1.2.1;have vx:=px.v0;dsimp only at px lx kx vx;dsimp only[Ri.v];have h9:B9=1000000000:=rfl;refine QV.intro (G:=λF=>E4 F ⟨xn,⟨xq,xm,xc⟩,xl⟩ zx) func121 rfl wy rfl rfl hF (λF' hF'=>hx.le hF')<|QI7<|Qs rfl (vs:=[_,_]) rfl λb1=>wQ rfl<|QG<|QI7<|QA (QH rfl WY Jz)<|QA (Qf rfl Jz .here (.skip .h1))<|QA (Qh rfl JC)<|QA (QT rfl rfl rfl)<|QE<|QC ?_
 refine QR I (λhc=>?_) λhc=>?_
 ·have hx0:zx=0:=(px.zero).1 (ao (by have:=hc;simp at this;omega));refine wA 6 I ?_;exact QJO I I (by rw[hx0,XT wu];exact congrArg (λl=>tx l) Ya) w8
 have hl0:0<xl.length:=by
  rcases aB xm with g | g
  ·rw[g]at hc;simp at hc
  omega
 obtain⟨d1,d2⟩:=Iu px.dg px.nz hl0;have b0:=px.dg.Qn XY (xl.length-1);rw[h9]at b0;refine QJL 4 I<|QA (QH I WY Jz)<|QA (Qf I Jz .here (.skip .h1))<|QA (QH I WY Jz)<|QA (Qf I Jz .here (.skip .h1))<|QA (Qh I JC)<|QA (X3 I I O)<|QA (Q3 (n:=xm) (xl.length-1) (λF hx=>(hx.1).1) rfl wM JC JO O)<|QA (Q5 (n:=xm) ((xl.length-1)*1) (λF hx=>(hx.1).1) O rfl JO (J6 (o:=xl) O))<|QI I (λ_ _ f k=>SE f (least:=1) O O O) λ_=>QJK 6 I<|QA (QH I WY Jz)<|QA (Qf I Jz .here (.skip .h1))<|QA (Qh I JC)<|QA (X3 I I O)<|wB 2 I ?_
 refine QC<|QW<|XK (ι:=TxI xl) [(1,_)] (λi=>[(3,tx i.s),(4,.int .i64 ((i.k:Int)-1))]) (λi=>i.k) (TxI.start px.dg px.nz hl0) wS ⟨rfl,(congrArg (λz:Int=>some (af .i64 z)) (by simp only[TxI.start];omega)),trivial⟩ λi=>?_
 simp only[ag,ah];have hle:=i.le;have hsl:=i.sl;refine wA 7 I ?_;refine QR I (λhc=>?_) λhc=>?_
 ·have hk0:0<i.k:=wk<|QJG hc
  have b1:=px.dg.Qn XY (i.k-1);rw[h9]at b1;have ln:=I8 (n:=(Qn xl (i.k-1)).toNat) O;refine QJL 6 I<|QA (QH I WY Jz)<|QA (Qf I Jz .here (.skip .h1))<|QH0 I<|QA (Q3 (n:=xm) (i.k-1) (λF h9=>(h9.1.1).1) rfl wM JC JO O)<|QA (Q5 (n:=xm) ((i.k-1)*1) (λF h9=>(h9.1.1).1) O rfl JO (J6 (o:=xl) O))<|QI I (λ_ _ f k=>SE f (least:=9) O O O) λ_=>QA (Yi I I O)<|wB 2 I<|Qk<|QJM 3 I<|QA (X3 I I O)<|wB 2 I ?_
  exact Qm (i.next px.dg hk0) (by show i.k-1<i.k;omega) ⟨rfl,rfl,(congrArg (λz:Int=>some (af .i64 z)) (by simp only[TxI.next];omega)),trivial⟩ QIM tA
 have hk0:i.k=0:=wk<|QJH hc
 have hi:=i.h;rw[hk0,bD]at hi;have ha:=px.abs;refine Qz ?_
 repeat first|refine QZ ?_|refine QQ wy ?_
 refine Qa<|QJM 4 I<|QA (QH I Rh SA)<|QA (Qf I SA .here .h1)<|QE<|QC ?_
 refine QR I (λhc=>?_) λhc=>?_
 ·have hneg:zx<0:=by have:=px.neg;rw[hc]at this;exact QJG this.symm
  refine wR I<|QA (Yi I I w6)<|wQ I<|QY ?_
  exact QJO I I (by rw[Kf hneg,hi];exact congrArg (λn=>tx (45::aj n)) O) w8
 have hneg:¬zx<0:=by have:=px.neg;rw[hc]at this;exact QJH this.symm
 refine QJL 9 I ?_;exact QJO I I (by rw[XT O,hi];exact congrArg (λn=>tx (aj n)) O) w8
structure PaI(s:List UInt8) where
 s':List UInt8
 out:List Int
 v:Value
 ob:List (Nat×Obj)
 dg:DG B9 out
 al:ZG s'=true
 ll:s'.length+9*out.length<=s.length
 h:(Jc s':Int)*B9^out.length+dv B9 out=Jc s
 hr:Q9 3 1 v out.length (out.map Jr) ob
def cM:((10^9:Nat):Int)=B9:=wu
theorem QFS{s:List UInt8}(h:(Jc s:Int)*B9^out.length+dv B9 out=z)(hl:9<=s.length):(Jc (s.take (s.length-9)):Int)*B9^(out++[(Jc (s.drop (s.length-9)):Int)]).length+dv B9 (out++[(Jc (s.drop (s.length-9)):Int)])=z:=by
 have e:=Kb (s.take (s.length-9)) (s.drop (s.length-9));rw[bX,aM,show s.length-(s.length-9)=9 by omega]at e;rw[X6,aC,aK,aQ,<-h,e,Int.natCast_add,Int.natCast_mul,cM];generalize B9^out.length=p;generalize ((Jc (s.take (s.length-9)):Nat):Int)=a;generalize ((Jc (s.drop (s.length-9)):Nat):Int)=b;generalize B9=B
 grind
def Li(h:ar s [45]=true):1<=s.length:=by
 rcases aB s.length with g | g
 ·rw[ao g]at h;simp[ar]at h
 omega
def QGh{t:List UInt8}(h:(Jc t:Int)*B9^out.length+dv B9 out=Jc (aa s [45])):I4 (ar s [45]) (out++[(Jc t:Int)])=Y7 s:=by
 have e:dv B9 (out++[(Jc t:Int)])=Jc (aa s [45]):=by
  rw[X6,<-h,aI];omega
 unfold I4 Y7;rw[e];unfold aa;cases ar s [45]<;>simp
def vi{s:List UInt8}(h:ZG s=true)(hl:s.length<=9):(Jc s:Int)<B9:=by
 have h1:=HK h;have h2:10^s.length<=10^9:=aV wu hl;have h3:=cM;omega
theorem Sy(hF:Fits F w)(hs:ZG (aa s [45])=true)(hl:s.length<=1000000):Iz prog 118 [tx s] w F (Y7 s):=by
 refine QV.intro (G:=λF=>True) func118 rfl wy rfl rfl hF w8<|QI7<|Qc Dp λb2=>QE<|QC ?_
 refine Zc [(0,_),(2,_)] [(3,.bool (ar s [45]))] wT ?_ ?_
 ·refine wA 2 I<|QA (Xj I Zk)<|wB 2 I ?_
  refine Ql (t:=8) rfl (λhb8=>?_) λhb8=>?_
  ·refine wB 3 I<|QA (Hj (i:=0) rfl rfl Zk (wk<|QJG hb8))<|wB 5 I ?_
   exact JY ⟨rfl,rfl,(congrArg (λb=>some (ab b)) (by have h0:0<s.length:=(wk<|QJG hb8);rw[EE h0];exact AI I)),trivial⟩ QIM w9
  refine wB 6 I ?_;exact JY ⟨rfl,rfl,(congrArg (λb=>some (ab b)) (by have h0:s.length=0:=(wk<|QJH hb8);rw[ao h0];rfl)),trivial⟩ QIM w9
 simp only[ag,ah];refine Zc [(2,_),(3,_)] [(0,tx (aa s [45]))] wT ?_ ?_
 ·refine wA 5 I ?_;refine QR I (λhc=>?_) λhc=>?_
  ·refine wA 2 I<|QA (GC (1) rfl rfl Zk I (Li hc))<|wB 2 I ?_
   exact JY ⟨rfl,rfl,(congrArg (λl=>some (tx l)) (by unfold aa;rw[if_pos hc];rfl)),trivial⟩ QIM w9
  refine QO ?_;exact JY ⟨rfl,rfl,(congrArg (λl=>some (tx l)) (by unfold aa;rw[hc];rfl)),trivial⟩ QIM w9
 simp only[ag,ah];have hln:(aa s [45]).length<=s.length:=AM _ _;refine wA 7 I<|JV (ι:=PaI (aa s [45])) [(2,_),(3,_)] (λi=>[(0,tx i.s'),(4,i.v)]) (λi=>(b2,.cells [.bool false,.slice none 0 0].toArray 97 (0,0))::i.ob) (λi F=>True) (λi=>i.s'.length) (⟨aa s [45],[],.slice none 0 0,[],DG.nil _,hs,wz,wz,.nil⟩) wT wT QIM w8 λi=>?_
 simp only[ag,ah];have hll:=i.ll;refine wA 4 I<|QA (Xj I Zk)<|QJK 3 I ?_
 refine QR I (λhc=>?_) λhc=>?_
 ·have h9:9<i.s'.length:=wk<|QJG hc
  refine QJL 8 I<|QA (Xj I Zk)<|QA (X3 I I O)<|QA (GC (i.s'.length-9) rfl rfl Zk wM O)<|QI I (λ_ _ f k=>Ow f (Td i.al _) (by rw[aM];omega)) λ_=>Qb I (Q4 JC) JO SP I I λb26=>Ze (bs':=[(b2,.cells [.bool false,.slice none 0 0].toArray 97 (0,0))]++i.ob) (bK _) ?_
  refine KB (ob:=i.ob) (k:=1) (sz:=1) (news:=[.int .i64 ((Jc (i.s'.drop (i.s'.length-9)):Int))]) I I JC JO SP I OM i.hr (Src.row (off:=0) tB (λj v hv=>by rw[aU];show([.int .i64 ((Jc (i.s'.drop (i.s'.length-9)):Int))].toArray)[j]?=some v;rw[aF];exact hv) rfl) O O (Ke wS) (λv27 ob27 hr27=>?_);refine QJK 6 I<|QA (Xj I Zk)<|QA (X3 I I O)<|QA (Mn (i.s'.length-9) rfl rfl Zk wM O)<|wB 2 I<|Qk ?_
  exact Qm (⟨i.s'.take (i.s'.length-9),i.out++[(Jc (i.s'.drop (i.s'.length-9)):Int)],v27,ob27,i.dg.append (DG.cons O (vi (Td i.al _) (by rw[aM];omega)) (DG.nil _)),Md i.al _,by rw[ay,aC,aK];omega,QFS i.h O,by simpa[Jr]using hr27⟩) (by show(i.s'.take (i.s'.length-9)).length<i.s'.length;rw[ay];omega) wV QIM λF h=>⟨h.1.1.1,trivial⟩
 have h9:i.s'.length<=9:=wk<|QJH hc
 refine Qz ?_
 repeat first|refine QZ ?_|refine QQ wy ?_
 refine Qa<|QJM 6 I<|QI I (λ_ _ f k=>Ow f (i.al) O) λ_=>Qb I (Q4 JC) JO SP I I λb37=>Ze (bs':=[(b2,.cells [.bool false,.slice none 0 0].toArray 97 (0,0))]++i.ob) (bK _) ?_
 refine KB (ob:=i.ob) (k:=1) (sz:=1) (news:=[.int .i64 ((Jc i.s':Int))]) I I JC JO SP I OM i.hr (Src.row (off:=0) tB (λj v hv=>by rw[aU];show([.int .i64 ((Jc i.s':Int))].toArray)[j]?=some v;rw[aF];exact hv) rfl) O O (Ke wS) (λv38 ob38 hr38=>?_);obtain⟨r,hv,hrn,hrc,hfix⟩:=Q9.fix (w0:=w) (F0:=F) (bs1:=[(b2,.cells [.bool false,.slice none 0 0].toArray 97 (0,0))]) (G:=_) hr38;refine YS hfix ?_;rw[hv];refine QI I (λw F hF ⟨⟨⟨⟨hT,_⟩,_⟩,hs37⟩,hX⟩=>Hh hF (r:=r) (l:=i.out++[(Jc i.s':Int)]) (neg:=ar s [45]) ⟨by rw[hrn];simpa[Jr]using hX,by rw[hrn];simp,O⟩ (i.dg.append (DG.cons O (vi i.al h9) (DG.nil _))) (by first | omega | (simp;omega))) (λc39=>QU (vs:=[_,_]) I I I Xg I .here .h2 wT<|QHz<|QY ?_);exact QS (c39) rfl (.JX (c:=[_,_]) I Xg .here .nil) (rfl) λF ⟨⟨⟨⟨⟨hT,_⟩,_⟩,hs37⟩,hX⟩,h39⟩=>(by rw[QGh i.h]at h39;exact h39)
def Is(z:Int):(Zi z).length<=sz z+2:=by
 have h:(aj z.natAbs).length<=sz z+1:=by
  rw[bm];refine Kg ?_ O;have h1:=E7 z;have h2:2^sz z<=10^sz z:=ep wu _;have h3:10^sz z<=10^(sz z+1):=aV wu O;omega
 rcases bN z 0 with g | g
 ·rw[Kf g,aN];omega
 rw[XT g];omega
def dm(n:Nat):(aj n).length<=sz (n:Int)+1:=by
 rw[bm];refine Kg ?_ O;have h1:=E7 (n:Int);have h2:2^sz (n:Int)<=10^sz (n:Int):=ep wu _;have h3:10^sz (n:Int)<=10^(sz (n:Int)+1):=aV wu O;simp at h1;omega
def UQ(x:Rat):(Js x).length<=2*JU x+4:=by
 have h1:=Is x.num;have h2:=dm x.den;have h3:=Jx x;have h4:=Jo x;unfold Js;split
 ·omega
 rw[aC,aN];omega
def gG{l:List UInt8}(h:l.contains 47=false):l.all (λc=>!Zx c)=true:=by
 rw[fa];intro c hc;have:c≠47:=by rintro rfl;simp[hc]at h
 simp[Zx,this]
def Pe(z:Int):(Zi z).contains 47=false:=Mo z wu wu
def C2(h:x.den=1):Js x=Zi x.num/\ahead Zx (Js x)=(Js x).length:=by
 have e:Js x=Zi x.num:=by unfold Js;rw[if_pos h]
 exact⟨e,by rw[e];exact gI (gG (Pe _))⟩
def NU(h:x.den≠1):ahead Zx (Js x)=(Zi x.num).length/\ahead Zx (Js x)<(Js x).length/\(Js x).take (ahead Zx (Js x))=Zi x.num/\(Js x).drop (ahead Zx (Js x)+1)=aj x.den:=by
 have e:Js x=Zi x.num++47::aj x.den:=by unfold Js;rw[if_neg h]
 have h1:ahead Zx (Js x)=(Zi x.num).length:=by
  refine gH (by rw[e];simp) ?_ ?_
  ·rw[e,List.take_append_of_le_length (ax _),aL];exact gG (Pe _)
  simp[e,Zx]
 rw[h1];refine⟨rfl,by rw[e];simp,?_,?_⟩
 ·rw[e];simp
 rw[e,List.drop_append];simp
def xk(x:Rat):(ahead Zx (Js x)=(Js x).length)↔x.den=1:=by
 constructor
 ·intro h;by_cases g:x.den=1
  ·exact g
  have:=(NU g).2.1;omega
 intro h;exact(C2 h).2
def vt(z:Int):ZG (aa (Zi z) [45])=true:=by rw[Hf];exact J0 _
def QDE(n:Nat):ZG (aa (aj n) [45])=true:=by rw[V5 (J0 n)];exact J0 _
def QCp(n:Nat):Y7 (aj n)=n:=by rw[YP (J0 n),Xd]
@[reducible] def Ri.v2 (c:Ri×Ri):Value:=.tuple #[c.1.v,c.2.v]
theorem My(hF:Fits F w)(hl:JU x<=100000):QV prog 53 [tx (Js x)] w F Ri.v2 (λc F=>E4 F c.1 x.num/\E4 F c.2 x.den):=by
 have hlen:=UQ x;refine QV.intro (G:=λF=>True) func53 rfl wy rfl rfl hF w8<|QI7<|Qc Dp λb2=>Qc Dp λb3=>QHz<|wR rfl<|wQ rfl<|wR rfl<|QI rfl (λ_ _ f k=>Sx f O) λ_=>wQ rfl<|QG<|wR rfl<|QH0 rfl ?_
 refine QA (Xj I Zk)<|QJK 3 I ?_
 refine QR I (λhc=>?_) λhc=>?_
 ·have hd:x.den=1:=(xk x).1 (by have:(ahead Zx (Js x):Int)=((Js x).length:Int):=(by simpa using hc);omega);rw[(C2 hd).1];refine wR I<|QI I (λ_ _ f k=>Sy f (vt _) (by have:=Is x.num;have:=Jx x;omega)) λc14=>QI I (λ_ _ f k=>Iq f wu) λc15=>QU (vs:=[_,_]) I I I Xg I .u1 .h2 wT<|QU (vs:=[_,_]) I I I Xg I .here .h2 wT<|QHz<|QY ?_
  exact Jd ((c14,c15):Ri×Ri) rfl (.JX (c:=[_,_]) I Xg .u1 (.JX (c:=[_,_]) I Xg .here .nil)) (rfl) λF ⟨⟨⟨hT,_⟩,h14⟩,h15⟩=>⟨by rw[Ks]at h14;exact h14,by have e:(x.den:Int)=1:=(by rw[hd];rfl);rw[e];exact h15⟩
 have hd:¬x.den=1:=λg=>by have:=(xk x).2 g;rw[this]at hc;simp at hc
 obtain⟨k1,k2,k3,k4⟩:=NU hd;refine QJL 3 I<|JH (.cons _ (.cons _ .slnil)) mixed wm<|QK (QD I)<|QK (QD I)<|QK (Mn (ahead Zx (Js x)) I I Zk I O) ?_
 rw[k3];refine QP I (λ_ _ f k=>Sy f (vt _) (by have:=Is x.num;have:=Jx x;omega)) (λc19=>QK (QD I)<|QK (QD I)<|QK (Qw I I O)<|QK (GC ((ahead Zx (Js x)+1)) I I Zk wM O) ?_);rw[k4];refine QP I (λ_ _ f k=>Sy f (QDE _) (by have:=dm x.den;have:=Jo x;omega)) (λc24=>JR (vs:=[_,_]) I I I Xg I .u1 (.cons _ .slnil) (λ_ h=>h.1.1) .h2 wT<|JR (vs:=[_,_]) I I I Xg I .here (.cons _ .slnil) (λ_ h=>h.1.1) .h2 wT<|Q7<|QC<|QY ?_);exact Jd ((c19,c24):Ri×Ri) rfl (.JX (c:=[_,_]) I Xg .u1 (.JX (c:=[_,_]) I Xg .here .nil)) (rfl) λF ⟨⟨⟨hT,_⟩,TM⟩,h24⟩=>⟨by rw[Ks]at TM;exact TM,by rw[QCp]at h24;exact h24⟩
structure QI9(zx zy:Int) where
 n:Ri
 d:Ri
 zn:Int
 zd:Int
 h:0<zd
 e:ak zn zd=ak zx zy
 sn:sz zn<=500000
 sd:sz zd<=500000
theorem QFd{n d:Int}(h:0<d){neg:Bool}{l p:List Int}(hn:R7 neg l n)(hp:dv B9 p=dv B9 l/(aZ n d:Int)):I4 neg p=(ak n d).num:=by
 rw[(Vq h).1];have hg:(0:Int)<(aZ n d:Int):=wk (Gt (x:=n) h);obtain⟨k,hk⟩:=fe (a:=n) (b:=d);have e:=hn.e;have hv:=hn.v0;unfold I4 at e ⊢;rw[hp];cases neg with
 |true =>
  simp only[if_true]at e ⊢;have e2:dv B9 l=(aZ n d:Int)*(-k):=by rw[fK,<-hk];omega
  rw[e2,eU _ O];have e3:n/(aZ n d:Int)=k:=by
   conv=>lhs;lhs;rw[hk]
   exact eU _ O
  rw[e3];omega
 |false =>
  simp only[Bool.false_eq_true,if_false]at e ⊢;rw[<-e]
def QFe{n d:Int}(h:0<d){neg:Bool}{l p:List Int}(hn:R7 neg l d)(hp:dv B9 p=dv B9 l/(aZ n d:Int)):dv B9 p=((ak n d).den:Int):=by
 rw[(Vq h).2,hp];have:=hn.abs;congr 1;omega
def cZ{n d:Int}{a b:Bool}{m:List Int}(hn:R7 a l n)(hd:R7 b m d):aZ (dv B9 l) (dv B9 m)=aZ n d:=by
 rw[<-hn.abs,<-hd.abs];simp[aZ]
def cm(x y:Int):ak (-x) (-y)=ak x y:=e8 x y
theorem yC(h:DG B9 l)(hz:NZ l):(l.length=1/\Qn l 0=1)↔dv B9 l=1:=by
 constructor
 ·rintro⟨h1,h2⟩;obtain⟨x,rfl⟩:=List.length_eq_one_iff.1 h1;simp[Qn]at h2;simp[dv,h2]
 intro e;have:l=[1]:=p8 TM h (DG.cons wu wu (DG.nil _)) hz (by simp[NZ]) (by rw[e];simp[dv]);subst this;exact⟨rfl,rfl⟩
def QCU(h:(x.den:Int)=1):Zi x.num=Js x:=by unfold Js;rw[if_pos O]
theorem dD(h:¬(x.den:Int)=1):Zi x.num++[47]++Zi (x.den:Int)=Js x:=by
 unfold Js;rw[if_neg O,XT (z:=(x.den:Int)) O];simp
theorem Mz{x y:Ri}{zy:Int}(hF:Fits F w)(hx:E4 F x zx)(hy:E4 F y zy)(h0:zy≠0)(hzx:sz zx<=500000)(hzy:sz zy<=500000):Qg prog 54 [x.v,y.v] w F (tx (Js (ak zx zy))):=by
 obtain⟨xn,⟨xq,xm,xc⟩,xl⟩:=x;have px:=hx.p;have lx:=px.len;have kx:=hx.1.2.1;have vx:=px.v0;dsimp only at px lx kx vx;obtain⟨yn,⟨yq,ym,yc⟩,yl⟩:=y;have py:=hy.p;have ly:=py.len;have ky:=hy.1.2.1;have vy:=py.v0;dsimp only at py ly ky vy;dsimp only[Ri.v];have hny:=py.neg;refine QV.intro (G:=λF=>E4 F ⟨xn,⟨xq,xm,xc⟩,xl⟩ zx/\E4 F ⟨yn,⟨yq,ym,yc⟩,yl⟩ zy) func54 rfl wy rfl rfl hF (λF' hF'=>⟨hx.le hF',hy.le hF'⟩)<|QI7<|Qs rfl (vs:=[_,_]) rfl λb2=>Qs rfl (vs:=[_,_]) rfl λb3=>QH1 rfl<|QE<|QC ?_
 refine Iy (ι:=QI9 zx zy) [(2,_),(3,_)] (λi=>[]) (λi=>[(b3,.cells [.bool i.d.neg,.slice i.d.r.q i.d.r.n i.d.r.cap].toArray 97 (0,0)),(b2,.cells [.bool i.n.neg,.slice i.n.r.q i.n.r.n i.n.r.cap].toArray 97 (0,0))]) (λi F=>E4 F i.n i.zn/\E4 F i.d i.zd) wT ?_ ?_
 ·refine QI7<|QA (QH I Rh SA)<|QA (Qf I SA .here .h1)<|QE<|QC ?_
  refine QR I (λhc=>?_) λhc=>?_
  ·refine Jp 4 QIM mixed wm wm ?_;simp only[List.take_succ_cons,List.take_zero,List.drop_succ_cons,bD];refine QK (wH I Xg .u1)<|QP I (λ_ _ f k=>uu f (x:=⟨xn,⟨xq,xm,xc⟩,xl⟩) k.1 O) λc14=>QK (wH I Xg .here)<|QP I (λ_ _ f k=>uu f (x:=⟨yn,⟨yq,ym,yc⟩,yl⟩) k.1.2 O) λc16=>ZV<|QU (vs:=[_,_]) I I I Xg I .u1 .h2 wT<|QU (vs:=[_,_]) I I I Xg I .here .h2 wT<|QE ?_
   exact Zd (⟨c14,c16,-zx,-zy,by rw[hc]at hny;have:=QJG hny.symm;omega,cm _ _,by rw[VZ];exact hzx,by rw[VZ];exact hzy⟩) wT QIM λF h9=>⟨⟨h9.1.1.1,h9.1.1.2⟩,⟨h9.1.2,h9.2⟩⟩
  refine QO ?_;exact Zd (⟨⟨xn,⟨xq,xm,xc⟩,xl⟩,⟨yn,⟨yq,ym,yc⟩,yl⟩,zx,zy,by rw[hc]at hny;have:=QJH hny.symm;omega,rfl,hzx,hzy⟩) wT QIM λF ⟨hx,hy⟩=>⟨⟨hx,hy⟩,⟨hx,hy⟩⟩
 intro i;simp only[ag,ah];refine XS _ (λ_ _ f h=>aO h.2.1.p (aO h.2.2.p (aO h.2.1.1.2.1 h.2.2.1.2.1))) (λpp=>?_);obtain⟨pn,pd,kn,kd⟩:=pp;have ln:=pn.len;have ld:=pd.len;have hsn:=i.sn;have hsd:=i.sd;have hi:=i.h;have gg:=cZ pn pd;have q1:=VY (a:=i.zn) (b:=i.zd) O;have q2:=Jx (ak i.zn i.zd);have q3:=Jo (ak i.zn i.zd);have q4:sz (ak i.zn i.zd).num<=500000:=O;have q5:sz ((ak i.zn i.zd).den:Int)<=500000:=O;refine QI7<|QA (QH I WY Jz)<|QA (Qf I Jz .u1 (.skip .h1))<|QA (QH I WY Jz)<|QA (Qf I Jz .here (.skip .h1)) ?_
 refine QI I (λ_ _ f k=>vm f (a:=i.n.l) (b:=i.d.l) (ra:=i.n.r) (rb:=i.d.r) k.2.1.1 (k.2.2.1) (pn.dg) (pd.dg) (pn.nz) (pd.nz) O O) (λc21=>?_);rcases c21 with ⟨v21,l21⟩;dsimp only;refine JM _ (λw F hF ⟨⟨⟨hx,hy⟩,⟨hN,hD⟩⟩,⟨h21,h21p⟩⟩=>aO h21.2 h21p) (λp21=>wQ rfl<|QG ?_);have g0:0<dv B9 l21:=by rw[p21.2.2.2,gg];have:=Gt (x:=i.zn) i.h;omega
 have l21l:l21.length<=i.d.l.length:=by
  refine RV p21.2.1 pd.dg p21.2.2.1 ?_;rw[p21.2.2.2,gg];have h1:(aZ i.zn i.zd:Int)<=i.zd:=Int.le_of_dvd i.h (Int.gcd_dvd_right (a:=i.zn) (b:=i.zd));have h2:=pd.abs;omega
 refine QB<|QA (QH rfl WY Jz)<|QA (Qf rfl Jz .u1 (.skip .h1))<|QH0 rfl<|QI rfl (λ_ _ f k=>T7 f (a:=i.n.l) (b:=l21) (ra:=i.n.r) (rb:=v21) k.1.2.1.1 (k.2.1) (pn.dg) (p21.2.1) (pn.nz) (p21.2.2.1) (g0) O O) λc26=>QH0 rfl<|QA (QX rfl rfl)<|QA (QX rfl rfl)<|QH1 rfl<|wQ rfl<|QG<|XS _ (λ_ _ f h=>aO h.2.1.2 h.2.1.1.2.1) λp26=>?_
 obtain⟨p26,n26⟩:=p26;refine QB<|QA (QH rfl WY Jz)<|QA (Qf rfl Jz .here (.skip .h1))<|QH0 rfl<|QI rfl (λ_ _ f k=>T7 f (a:=i.d.l) (b:=l21) (ra:=i.d.r) (rb:=v21) k.1.1.2.2.1 (k.1.2.1) (pd.dg) (p21.2.1) (pd.nz) (p21.2.2.1) (g0) O O) λc33=>QH0 rfl<|QA (QX rfl rfl)<|QA (QX rfl rfl)<|QH1 rfl<|wQ rfl<|QG<|XS _ (λ_ _ f h=>aO h.2.1.2 h.2.1.1.2.1) λp33=>?_
 obtain⟨p33,n33⟩:=p33;have en:I4 i.n.neg c26.1.2=(ak i.zn i.zd).num:=QFd i.h pn (by rw[p26.2.2,p21.2.2.2,gg]);have ed:dv B9 c33.1.2=((ak i.zn i.zd).den:Int):=QFe i.h pd (by rw[p33.2.2,p21.2.2.2,gg]);have ed2:I4 false c33.1.2=((ak i.zn i.zd).den:Int):=by rw[<-ed];rfl
 have lnp:=RV p26.1 pn.dg p26.2.1 (by rw[p26.2.2];exact bI _ pn.v0);have lnq:=RV p33.1 pd.dg p33.2.1 (by rw[p33.2.2];exact bI _ pd.v0);have one1:=yC p33.1 p33.2.1;have lr1:=Is (ak i.zn i.zd).num;have lr2:=Is ((ak i.zn i.zd).den:Int);refine QB<|QA (QH I Rh SA)<|QA (Qf I SA .u1 .h1)<|QH0 I<|QI I (λ_ _ f k=>Hh f (r:=c26.1.1) (l:=c26.1.2) (neg:=i.n.neg) k.1.2.1.1 (p26.1) (by first | omega | (simp;omega))) λc39=>QI I (λ_ _ f k=>gz f (zx:=(ak i.zn i.zd).num) (by rw[<-en];exact k.2) O) λ_=>QJK 7 I<|QA (Qh I JC)<|wB 2 I ?_
 refine Ql (t:=44) rfl (λhb44=>?_) λhb44=>?_
 ·have hn1:c33.1.1.n=1:=by simp at hb44;omega
  refine wB 3 I<|QA (Q3 (n:=c33.1.1.n) (0) (λF h9=>(h9.1.1.2.1.1).1) rfl wM JC JO O)<|QM I I<|QA (Q5 (n:=c33.1.1.n) ((0)*1) (λF h9=>(h9.1.1.2.1.1).1) O rfl JO (J6 (o:=c33.1.2) O))<|QJK 5 I ?_
  refine QR I (λhc=>?_) λhc=>?_
  ·refine wA 7 I ?_;exact QJO I I (by rw[<-i.e];exact congrArg (λl=>tx l) (QCU (by rw[<-ed];exact one1.1 ⟨O,by simpa using hc⟩)).symm) w8
  refine QJL 5 I<|QA (Yi I I w6)<|QH0 I<|QI I (λ_ _ f k=>Hh f (r:=c33.1.1) (l:=c33.1.2) (neg:=false) k.1.1.2.1.1 (p33.1) (by first | omega | (simp;omega))) λc54=>QI I (λ_ _ f k=>gz f (zx:=((ak i.zn i.zd).den:Int)) (by rw[<-ed2];exact k.2) O) λ_=>QA (Yi I I w6)<|wQ I<|QY ?_
  exact QJO I I (by rw[<-i.e];exact congrArg (λl=>tx l) (dD λg=>by have:=one1.2 (by rw[ed];exact g);rw[this.2]at hc;simp at hc).symm) w8
 have hn1:c33.1.1.n≠1:=by simp at hb44;omega
 refine QJK 7 I<|Yv I<|QJL 5 I<|QA (Yi I I w6)<|QH0 I<|QI I (λ_ _ f k=>Hh f (r:=c33.1.1) (l:=c33.1.2) (neg:=false) k.1.1.2.1.1 (p33.1) (by first | omega | (simp;omega))) λc54=>QI I (λ_ _ f k=>gz f (zx:=((ak i.zn i.zd).den:Int)) (by rw[<-ed2];exact k.2) O) λ_=>QA (Yi I I w6)<|wQ I<|QY ?_
 exact QJO I I (by rw[<-i.e];exact congrArg (λl=>tx l) (dD λg=>by have:=one1.2 (by rw[ed];exact g);omega).symm) w8
def B0(x:Rat):Rat:=if x.num<0 then -x else x
def QD0(x:Rat):(B0 x).num=(x.num.natAbs:Int)/\(B0 x).den=x.den:=by
 unfold B0;split
 ·exact⟨by rw[eW];omega,by rw[fH]⟩
 exact⟨O,rfl⟩
def QCv(h:z<0):Zi z=45::Zi (-z):=by
 rw[Kf h,XT (z:=-z) O];congr 2;omega
def O4(h:x.num<0):Js x=45::Js (-x):=by
 unfold Js;rw[eW,fH,QCv h];split<;>rfl
theorem SF(x:Rat):ar (Js x) [45]=decide (x.num<0):=by
 by_cases h:x.num<0
 ·rw[O4 h];simp[ar,eE,h]
 have e:(decide (x.num<0))=false:=by simpa using h
 rw[e];unfold Js;rw[XT O];have hd:=J0 x.num.natAbs;split
 ·exact Va hd
 have hne:=Vr x.num.natAbs;cases hl:aj x.num.natAbs with
 |nil=>exact absurd hl hne
 |cons c r =>
  have:=Va hd;rw[hl]at this;simpa[ar,eE]using this
def uw(x:Rat):aa (Js x) [45]=Js (B0 x):=by
 unfold aa B0;rw[SF];by_cases h:x.num<0
 ·rw[if_pos (by simpa using h),if_pos h,O4 h];rfl
 rw[if_neg (by simpa using h),if_neg h]
def QDi(x:Rat):JU (B0 x)=JU x:=by
 unfold B0;split
 ·exact Vk x
 rfl
def QFu(x:Rat)(c:Int×Int×Bool):Prop:=c.2.2=true->c.1=x.num/\c.2.1=(x.den:Int)/\x.num.natAbs<1000000000/\x.den<1000000000
def zF{l:List UInt8}(h:ZG l=true)(hl:l.length<=9):Jc l<1000000000:=by
 have h1:=HK h;have h2:10^l.length<=10^9:=aV wu hl;omega
theorem O1(hF:Fits F w)(hl:JU x<=100000):QV prog 52 [tx (Js x)] w F (λ(c:Int×Int×Bool)=>.tuple #[.int .i64 c.1,.int .i64 c.2.1,.bool c.2.2]) (λc _=>QFu x c):=by
 have hlen:=UQ x;have hlen2:=UQ (B0 x);rw[QDi]at hlen2;obtain⟨an,ad⟩:=QD0 x;have hah:=Ep Zx (Js (B0 x));have anT:Zi (B0 x).num=aj x.num.natAbs:=by rw[an,XT O];rfl
 refine QV.intro (G:=λF=>True) func52 rfl wy rfl rfl hF w8<|QI7<|QH1 rfl<|QH1 rfl<|wQ rfl<|wR rfl<|wQ rfl<|QG<|wR rfl<|QA (Xj rfl Zk)<|QA (QT rfl rfl rfl)<|QE<|QC ?_
 refine QR I (λhc=>?_) λhc=>?_
 ·refine wA 8 I ?_;exact Jd ((0,0,false):Int×Int×Bool) rfl (.tmp rfl (wO rfl rfl)) (rfl) λF hT=>λh=>by cases h
 refine QO<|QC ?_
 refine Zc [(5,_)] [(6,.bool (decide (x.num<0)))] wS ?_ ?_
 ·refine wA 2 I<|QA (Xj I Zk)<|wB 2 I ?_
  refine Ql (t:=17) rfl (λhb17=>?_) λhb17=>?_
  ·refine wB 3 I<|QA (Hj (i:=0) rfl rfl Zk (wk<|QJG hb17))<|wB 5 I ?_
   exact JY ⟨rfl,(congrArg (λb=>some (ab b)) (by have h0:0<(Js x).length:=(wk<|QJG hb17);rw[<-SF,EE h0];exact AI I)),trivial⟩ QIM w9
  refine wB 6 I ?_;exact JY ⟨rfl,(congrArg (λb=>some (ab b)) (by have h0:(Js x).length=0:=(wk<|QJH hb17);rw[<-SF,ao h0];rfl)),trivial⟩ QIM w9
 simp only[ag,ah];refine Zc [(6,_)] [(5,tx (Js (B0 x)))] wS ?_ ?_
 ·refine wA 5 I ?_;refine QR I (λhc=>?_) λhc=>?_
  ·refine wA 2 I<|QA (GC (1) rfl rfl Zk I (by have:=Li (s:=Js x) (by rw[SF];exact hc);omega))<|wB 2 I ?_
   exact JY ⟨rfl,(congrArg (λl=>some (tx l)) (by rw[<-uw];unfold aa;rw[if_pos (by rw[SF];exact hc)];rfl)),trivial⟩ QIM w9
  refine QO ?_;exact JY ⟨rfl,(congrArg (λl=>some (tx l)) (by rw[<-uw];unfold aa;rw[SF,hc];rfl)),trivial⟩ QIM w9
 simp only[ag,ah];refine wR I<|QI I (λ_ _ f k=>Sx f O) λ_=>QJK 9 I ?_
 refine Ql (t:=29) rfl (λhb29=>?_) λhb29=>?_
 ·refine QJK 8 I<|Ut I<|wA 8 I ?_
  exact Jd ((0,0,false):Int×Int×Bool) rfl (.tmp rfl (wO rfl rfl)) (rfl) λF h9=>λh=>by cases h
 refine wB 3 I<|QA (Xj I Zk)<|wB 3 I<|QA (X3 I I O)<|QJK 5 I ?_
 refine QR I (λhc=>?_) λhc=>?_
 ·refine wA 8 I ?_;exact Jd ((0,0,false):Int×Int×Bool) rfl (.tmp rfl (wO rfl rfl)) (rfl) λF h9=>λh=>by cases h
 have k9:ahead Zx (Js (B0 x))<=9/\(Js (B0 x)).length-ahead Zx (Js (B0 x))<=10:=by
  have ha:=Ep Zx (Js (B0 x))
  first | (simp at hc hb29;omega) | (simp at hc;omega)
 have kt:(Js (B0 x)).take (ahead Zx (Js (B0 x)))=Zi (B0 x).num:=by
  by_cases hd:(B0 x).den=1
  ·obtain⟨e1,e2⟩:=C2 hd;rw[e2,aL,e1]
  exact(NU hd).2.2.1
 have kr:Jc ((Js (B0 x)).take (ahead Zx (Js (B0 x))))=x.num.natAbs:=by rw[kt,anT,Xd]
 have hnum:x.num.natAbs<1000000000:=by
  have h1:=zF (l:=Zi (B0 x).num) (by rw[anT];exact J0 _) (by rw[<-kt,ay];omega);rw[anT,Xd]at h1;exact h1
 have hdn:x.den<1000000000:=by
  rw[<-ad];by_cases hd:(B0 x).den=1
  ·omega
  obtain⟨e1,e2,e3,e4⟩:=NU hd;have h1:=zF (l:=aj (B0 x).den) (J0 _) (by rw[<-e4,aM];omega);rw[Xd]at h1;exact h1
 refine QJL 6 I<|QA (Mn (ahead Zx (Js (B0 x))) I I Zk I O)<|QI I (λ_ _ f k=>Ow f (by rw[kt,anT];exact J0 _) (by rw[ay];omega)) λ_=>?_
 rw[kr];refine QJK 4 I ?_;refine Zc [(6,_),(8,_)] [(9,.int .i64 (x.den:Int))] wT ?_ ?_
 ·refine wA 4 I<|QA (Xj I Zk)<|QJK 3 I ?_
  refine QR I (λhc=>?_) λhc=>?_
  ·have hlt:=QJG hc;have hd:¬(B0 x).den=1:=λg=>by have:=(xk (B0 x)).2 g;have:=QJG hc;omega
   have kd:=(NU hd).2.2.2;have kd2:Jc ((Js (B0 x)).drop (ahead Zx (Js (B0 x))+1))=x.den:=by rw[kd,Xd,ad]
   refine wA 3 I<|QA (Qw I I O)<|QA (GC ((ahead Zx (Js (B0 x))+1)) I I Zk wM O)<|QI I (λ_ _ f k=>Ow f (by rw[kd];exact J0 _) (by rw[aM];omega)) λ_=>?_
   rw[kd2];refine wB 2 I ?_;exact JY wU QIM tA
  have hd:(B0 x).den=1:=(xk (B0 x)).1 (by have:=QJH hc;have:=Ep Zx (Js (B0 x));omega);refine QO ?_;exact JY ⟨rfl,rfl,(congrArg (λz:Int=>some (af .i64 z)) (by rw[<-ad,hd];rfl)),trivial⟩ QIM w9
 simp only[ag,ah];have hden:x.den<1000000000:=hdn;refine Zc [(9,_)] [(8,.int .i64 (x.num))] wS ?_ ?_
 ·refine wA 5 I ?_;refine QR I (λhc=>?_) λhc=>?_
  ·refine wA 2 I<|QA (X3 I I O)<|wB 2 I ?_
   exact JY ⟨rfl,(congrArg (λz:Int=>some (af .i64 z)) (wk<|QJG hc)),trivial⟩ QIM w9
  refine QO ?_;exact JY ⟨rfl,(congrArg (λz:Int=>some (af .i64 z)) (wk<|QJH hc)),trivial⟩ QIM w9
 simp only[ag,ah];refine wA 10 I ?_;exact Jd ((x.num,(x.den:Int),true):Int×Int×Bool) rfl (.tmp rfl (wO I I)) (rfl) λF h9=>λ_=>⟨rfl,rfl,hnum,hden⟩
section
variable{P:Program}{N:Nat}{m:Sl}{S:World->Prop}{ty:TypeId}
def QGd{x y:Operand}{a b:Int}(hx:ev m x=some (.int .i64 a))(hy:ev m y=some (.int .i64 b))(h:0<b)(h0 : -9223372036854775807<=a)(h1:a<=9223372036854775807):Qt P N m S (.binOp .quo T x y yT) ty (.int .i64 (a.tdiv b)):=by
 have:=vp (P:=P) (N:=N) (m:=m) (S:=S) (ty:=ty) (T:=T) (yT:=yT) hx hy O;have e:=eI a b;have e2:a.natAbs.div b.natAbs<=a.natAbs:=eH _ _;rw[eD _ O]at this;exact this
end
theorem QFP{x y:Int}(hF:Fits F w)(h0:0<=x)(h1:x<=9223372036854775807)(k0:0<=y)(k1:y<=9223372036854775807):Qg prog 58 [.int .i64 x,.int .i64 y] w F (.int .i64 (bw x.toNat y.toNat:Nat)):=by
 have:=QGa (a:=x.toNat) (b:=y.toNat) hF O O;rw[eu h0,eu k0]at this;exact this
def QEK(z:Int):(if 0-z>z then 0-z else z)=((z.natAbs:Nat):Int):=by split<;>omega
def cx(n:Nat):qw n 1=aj n:=by
 rcases aB n with h | h
 ·subst h;unfold qw hd;rw[if_pos rfl,Ya];rfl
 exact kI h
theorem QD9{n:Int}{d:Nat}(h:0<d):n.tdiv ((bw n.natAbs d:Nat):Int)=(ak n d).num:=by
 rw[(Vq (x:=n) (y:=(d:Int)) O).1];have e:(bw n.natAbs d:Nat)=aZ n (d:Int):=by simp[aZ]
 rw[e];exact Int.tdiv_eq_ediv_of_dvd (fe (a:=n) (b:=(d:Int)))
theorem QEA{n:Int}{d:Nat}(h:0<d):(d:Int)/((bw n.natAbs d:Nat):Int)=((ak n d).den:Int):=by
 rw[(Vq (x:=n) (y:=(d:Int)) O).2];have e:(bw n.natAbs d:Nat)=aZ n (d:Int):=by simp[aZ]
 rw[e]
def QFV(n:Int){d:Int}(h:d≠0):ak (if d<0 then 0-n else n) (d.natAbs:Int)=ak n d:=by
 split
 ·rename_i g;rw[show((d.natAbs:Nat):Int) = -d by omega,Int.zero_sub];exact e8 n d
 rw[show((d.natAbs:Nat):Int)=d by omega]
def QEB{n:Int}{d:Nat}(h:0<d)(hn:n.natAbs<=4000000000000000000)(hd:d<=4000000000000000000):(ak n d).num.natAbs<=4000000000000000000/\(ak n d).den<=4000000000000000000/\0<(ak n d).den:=by
 have e1:=QD9 (n:=n) h;have e2:=QEA (n:=n) h;have k1:=eI n ((bw n.natAbs d:Nat):Int);have k2:n.natAbs.div ((bw n.natAbs d:Nat):Int).natAbs<=n.natAbs:=eH _ _;have k3:(d:Int)/((bw n.natAbs d:Nat):Int)<=(d:Int):=bI _ O;have k4:=(ak n d).den_pos;rw[e1]at k1;omega
def cJ(z:Int):(if z<0 then[45]else[])++aj z.natAbs=Zi z:=by
 split
 ·rename_i h;rw[Kf h];rfl
 rw[XT O];rfl
def QFI(h : -9223372036854775808<=z/\z<=9223372036854775807):sz z<=64:=by
 rw[XO];omega
theorem QCS{num den:Int}(hF:Fits F w)(hn : -9223372036854775808<=num/\num<=9223372036854775807)(hd : -9223372036854775808<=den/\den<=9223372036854775807)(h0:den≠0):Qg prog 15 [.int .i64 num,.int .i64 den] w F (tx (Js (ak num den))):=by
 refine QV.intro (G:=λF=>True) func15 rfl wy rfl rfl hF w8<|QI7<|wQ rfl<|QG ?_
 refine Zc [(0,_),(1,_)] [(20,.bool (decide (num < -4000000000000000000\/num>4000000000000000000\/den < -4000000000000000000\/den>4000000000000000000)))] wT ?_ ?_
 ·refine wA 4 I ?_;refine Ql (t:=9) rfl (λhb9=>?_) λhb9=>?_
  ·refine wB 12 I ?_;exact JY ⟨rfl,rfl,(congrArg (λb=>some (ab b)) (by rw[ae];simp_all;try omega)),trivial⟩ QIM w9
  refine wB 6 I ?_;refine Ql (t:=13) rfl (λhb13=>?_) λhb13=>?_
  ·refine wB 8 I ?_;exact JY ⟨rfl,rfl,(congrArg (λb=>some (ab b)) (by rw[ae];simp_all;try omega)),trivial⟩ QIM w9
  refine wB 6 I ?_;refine Ql (t:=17) rfl (λhb17=>?_) λhb17=>?_
  ·refine wB 4 I ?_;exact JY ⟨rfl,rfl,(congrArg (λb=>some (ab b)) (by rw[ae];simp_all;try omega)),trivial⟩ QIM w9
  refine wB 6 I ?_;exact JY ⟨rfl,rfl,(congrArg (λb=>some (ab b)) (by rw[ae];simp_all;try omega)),trivial⟩ QIM w9
 simp only[ag,ah];refine QR I (λhc=>?_) λhc=>?_
 ·refine wR I<|QI I (λ_ _ f k=>Iq f O) λc22=>QH0 I<|QI I (λ_ _ f k=>Iq f O) λc24=>QI I (λ_ _ f k=>Mz f (k.1.2) (k.2) (h0) (wk<|QFI hn) (wk<|QFI hd)) λ_=>wQ I<|QY ?_
  exact QJO I I (rfl) w8
 have hb:¬(num < -4000000000000000000\/num>4000000000000000000\/den < -4000000000000000000\/den>4000000000000000000):=QJH hc;refine QO<|QC ?_
 refine Zc [] [(0,.int .i64 (if den<0 then 0-num else num)),(1,.int .i64 ((den.natAbs:Nat):Int))] trivial ?_ ?_
 ·refine wA 6 I ?_;refine QR I (λhc=>?_) λhc=>?_
  ·refine wA 2 I<|QA (X3 I I O)<|QH0 I<|QA (X3 I I O)<|wB 3 I ?_
   exact JY ⟨(congrArg (λz:Int=>some (af .i64 z)) (if_pos (QJG hc)).symm),(congrArg (λz:Int=>some (af .i64 z)) (wk<|QJG hc)),trivial⟩ QIM w9
  refine QO ?_;exact JY ⟨(congrArg (λz:Int=>some (af .i64 z)) (if_neg (QJH hc)).symm),(congrArg (λz:Int=>some (af .i64 z)) (wk<|QJH hc)),trivial⟩ QIM w9
 simp only[ag,ah];have hq:=QFV num h0;have b1:(if den<0 then 0-num else num).natAbs<=4000000000000000000:=by split<;>omega
 generalize (if den<0 then 0-num else num)=n1 at *
 obtain⟨c1,c2,c3⟩:=QEB (n:=n1) (d:=den.natAbs) O b1 O;have hg:0<bw n1.natAbs den.natAbs:=Nat.gcd_pos_of_pos_right _ O;have lr1:=Is (ak n1 (den.natAbs:Int)).num;have lr2:=dm (ak n1 (den.natAbs:Int)).den;have lz1:=QFI (z:=(ak n1 (den.natAbs:Int)).num) O;have lz2:=QFI (z:=((ak n1 (den.natAbs:Int)).den:Int)) O;have e1:=QD9 (n:=n1) (d:=den.natAbs) O;have e2:=QEA (n:=n1) (d:=den.natAbs) O;refine wA 4 I<|QA (X3 I I O)<|QA (QF2 I I) ?_
 rw[QEK];refine QH0 I<|QI I (λ_ _ f k=>QFP f O O O O) λ_=>wQ I<|QG<|JH QIM mixed wm ?_
 simp only[ey];refine QK (QD I)<|QK (QD I)<|QK (QGd I I O O O) ?_
 rw[e1];refine QK (QD I)<|QK (QD I)<|QK (SX I I O O O) ?_
 rw[e2];refine QK (QF I)<|QK (QF I)<|Q7<|QJM 6 I ?_
 refine Zc [(0,_),(1,_)] [(6,tx (if(ak n1 (den.natAbs:Int)).num<0 then[45]else[]))] wT ?_ ?_
 ·refine wA 6 I ?_;refine QR I (λhc=>?_) λhc=>?_
  ·refine wA 3 I ?_;exact JY ⟨rfl,rfl,(congrArg (λl=>some (tx l)) (if_pos (QJG hc)).symm),trivial⟩ QIM w9
  refine QO ?_;exact JY ⟨rfl,rfl,(congrArg (λl=>some (tx l)) (if_neg (QJH hc)).symm),trivial⟩ QIM w9
 simp only[ag,ah];refine wA 5 I<|QA (X3 I I O)<|QA (QF2 I I) ?_
 rw[QEK];refine QI I (λ_ _ f k=>SE f (least:=1) O O O) (λ_=>?_);simp only[ey,cx];refine QA (Yi I I (by have e:=congrArg eC (cJ (ak n1 (den.natAbs:Int)).num);rw[aC]at e;omega))<|QJK 6 I ?_
 rw[cJ];refine QJK 4 I ?_;refine QR I (λhc=>?_) λhc=>?_
 ·have hd1:¬((ak n1 (den.natAbs:Int)).den:Int)=1:=wk<|QJG hc
  refine wA 2 I<|QA (Yi I I (by simp only[aC,aN,bW];omega))<|QH0 I<|QI I (λ_ _ f k=>SE f (least:=1) O O O) λ_=>?_
  simp only[ey,cx];refine QA (Yi I I (by simp only[aC,aN,bW];omega))<|QJK 10 I ?_
  exact QJO I I (by rw[<-hq];exact congrArg (λl=>tx l) (by rw[<-dD hd1,CC])) w8
 have hd1:((ak n1 (den.natAbs:Int)).den:Int)=1:=wk<|QJH hc
 refine QJL 9 I ?_;exact QJO I I (by rw[<-hq];exact congrArg (λl=>tx l) (QCU hd1).symm) w8
def QCd(x:Rat):QBJ (Js x)=Js (-x):=by
 unfold QBJ Uy;rw[SF];by_cases h0:Js x=[48]
 ·rw[if_pos h0];have hx:x=0:=by
   have hv:=Ks x.num;by_cases hd:x.den=1
   ·rw[(C2 hd).1]at h0;rw[h0]at hv;have:x.num=0:=by rw[<-hv];rfl
    exact Rat.num_eq_zero.1 this
   have:=(NU hd).2.2.1;have h1:=(NU hd).2.1;rw[h0]at h1;have h2:=(NU hd).1;have h3:0<(Zi x.num).length:=by
    rcases aB (Zi x.num).length with g | g
    ·have e:=ao g;unfold Zi at e;rcases bN x.num 0 with q | q
     ·have:=Kf q;unfold Zi at this;rw[this]at e;cases e
     have:=XT q;unfold Zi at this;rw[this]at e;exact absurd e (Vr _)
    exact g
   rw[h0]at h2;simp at h1;omega
  subst hx;have e:(-0:Rat)=0:=wu;rw[e,if_neg wu,if_pos rfl]
 rw[if_neg h0];by_cases hn:x.num<0
 ·rw[if_pos (show(decide (x.num<0))=true by simpa using hn),if_pos wu,O4 hn];rfl
 rw[if_neg (show ¬(decide (x.num<0))=true by simpa using hn),if_neg wu,if_neg wu];have h1:(-x).num<0:=by
  rw[eW];have:x.num≠0:=by
   intro e;have:=Rat.num_eq_zero.1 e;subst this;exact h0 Ak
  omega
 have:=O4 h1;rw[Rat.neg_neg]at this;exact this.symm
def uq(x:Rat):Uy (Js x)=MG x.num:=by
 unfold Uy;rw[SF];by_cases h0:x=0
 ·subst h0;rw[if_pos Ak];rfl
 have hn:x.num≠0:=λe=>h0 (Rat.num_eq_zero.1 e);have h1:Js x≠[48]:=by
  intro e;have h2:=QCd x;unfold QBJ Uy at h2;rw[if_pos e,if_neg wu,if_pos rfl,e]at h2;by_cases hd:x.den=1
  ·have hv:=Ks x.num;rw[<-(C2 hd).1,e]at hv;exact hn hv.symm
  have:=(NU hd).2.2.1;have hv:=Ks x.num;rw[<-this,e]at hv;have h3:=(NU hd).2.1;rw[e]at h3;have h4:ahead Zx [48]=1:=wu;rw[h4]at h3;exact absurd h3 wu
 rw[if_neg h1];unfold MG;by_cases g:x.num<0
 ·rw[if_pos (show(decide (x.num<0))=true by simpa using g),if_pos g]
 rw[if_neg (show ¬(decide (x.num<0))=true by simpa using g),if_neg g,if_neg hn]
def inv_divInt(_:x.num≠0):ak x.den x.num=x⁻¹:=(Rat.inv_def x).symm
theorem QFi(x y:Rat):MG (x-y).num=Yb x y:=by
 rw[Ip];unfold Yb;have h1:(x-y<0)↔x<y:=by grind
 have h2:(x-y=0)↔x=y:=by grind
 simp only[h1,h2]
def QFZ(n:Int):Js (n:Rat)=Zi n:=by unfold Js;rw[if_pos wz];simp
theorem QAv(hF:Fits F w)(hx:JU x<=100000)(hy:JU y<=100000):Qg prog 13 [tx (Js x),tx (Js y)] w F (tx (Js (x+y))):=by
 refine QV.intro (G:=λF=>True) func13 rfl wy rfl rfl hF w8<|QI7<|wQ rfl<|wR rfl<|QI rfl (λ_ _ f k=>O1 f (hx)) λc17=>JM _ (λ_ _ f k=>k.2) λp17=>QH0 rfl<|QA (QX rfl rfl)<|QA (QX rfl rfl)<|QA (QX rfl rfl)<|QH1 rfl<|QH1 rfl<|wQ rfl<|wR rfl<|QI rfl (λ_ _ f k=>O1 f (hy)) λc23=>JM _ (λ_ _ f k=>k.2) λp23=>?_
 refine QJK 14 I ?_;refine Ql (t:=28) rfl (λhb28=>?_) λhb28=>?_
 ·refine QJK 5 I ?_;refine QR I (λhc=>?_) λhc=>?_
  ·refine QG ?_;obtain⟨a1,a2,a3,a4⟩:=p17 hb28;obtain⟨b1,b2,b3,b4⟩:=p23 hc;have xd:=x.den_pos;have yd:=y.den_pos;have e1:(x.num*y.den).natAbs<1000000000*1000000000:=by rw[ba];exact aE a3 O
   have e2:(y.num*x.den).natAbs<1000000000*1000000000:=by rw[ba];exact aE b3 O
   have e3:(x.num*y.num).natAbs<1000000000*1000000000:=by rw[ba];exact aE a3 b3
   have e4:((x.den:Int)*y.den).natAbs<1000000000*1000000000:=by rw[ba];exact aE O O
   have e5:(x.den:Int)*y.den≠0:=by have h1:=Kn x;have h2:=Kn y;exact bz h1 h2
   rw[a1,a2,b1,b2];refine wA 3 I<|QA (M0 I I O)<|wB 2 I<|QA (M0 I I O)<|QA (Qw I I O)<|wB 2 I<|QA (M0 I I O)<|QI I (λ_ _ f k=>QCS f O O (e5)) λ_=>wQ I<|QY ?_
   exact QJO I I (by rw[BR]) w8
  refine QJL 3 I ?_;have s1:=Jx x;have s2:=Jo x;have s3:=Jx y;have s4:=Jo y;have m1:=K3 x.num y.den;have m2:=K3 y.num x.den;have m3:=K3 (x.den:Int) y.den;have m4:=K3 x.num y.num;have m5:=LM (x.num*y.den) (y.num*x.den);have e5:(x.den:Int)*y.den≠0:=bz (Kn x) (Kn y);refine wA 2 I<|QI I (λ_ _ f k=>My f (hx)) λc44=>wB 3 I<|Qc Dp λb11=>Qc Dp λb12=>QU (vs:=[_,_]) I I I Xg I .u1 .h2 wT<|QU (vs:=[_,_]) I I I Xg I .here .h2 wT<|QJK 5 I<|QI I (λ_ _ f k=>My f (hy)) λc49=>wB 3 I<|Qc Dp λb13=>Qc Dp λb14=>QU (vs:=[_,_]) I I I Xg I .u1 .h2 wT<|QU (vs:=[_,_]) I I I Xg I .here .h2 wT<|QE<|QC ?_
  refine QG<|JH QIM mixed wm<|QK (wH I Xg .u3)<|QK (wH I Xg .here)<|QP I (λ_ _ f k=>DD f (k.1.2.1) (k.2.2) O O) λc54=>QK (wH I Xg .u1)<|QK (wH I Xg .u2)<|QP I (λ_ _ f k=>DD f (k.1.2.1) (k.1.1.2.2) O O) λc57=>QP I (λ_ _ f k=>QCR f (k.1.2) (k.2) O O) λc58=>QK (wH I Xg .u2)<|QK (wH I Xg .here)<|QP I (λ_ _ f k=>DD f (k.1.1.1.1.2.2) (k.1.1.1.2.2) O O) λc61=>QP I (λ_ _ f k=>Mz f (k.1.2) (k.2) (e5) O O) λ_=>QK (QF I)<|Q7<|QC<|QY ?_
  exact QJO I I (by rw[BR]) w8
 refine QJK 4 I<|Yv I<|QJL 3 I ?_
 have s1:=Jx x;have s2:=Jo x;have s3:=Jx y;have s4:=Jo y;have m1:=K3 x.num y.den;have m2:=K3 y.num x.den;have m3:=K3 (x.den:Int) y.den;have m4:=K3 x.num y.num;have m5:=LM (x.num*y.den) (y.num*x.den);have e5:(x.den:Int)*y.den≠0:=bz (Kn x) (Kn y);refine wA 2 I<|QI I (λ_ _ f k=>My f (hx)) λc44=>wB 3 I<|Qc Dp λb11=>Qc Dp λb12=>QU (vs:=[_,_]) I I I Xg I .u1 .h2 wT<|QU (vs:=[_,_]) I I I Xg I .here .h2 wT<|QJK 5 I<|QI I (λ_ _ f k=>My f (hy)) λc49=>wB 3 I<|Qc Dp λb13=>Qc Dp λb14=>QU (vs:=[_,_]) I I I Xg I .u1 .h2 wT<|QU (vs:=[_,_]) I I I Xg I .here .h2 wT<|QE<|QC ?_
 refine QG<|JH QIM mixed wm<|QK (wH I Xg .u3)<|QK (wH I Xg .here)<|QP I (λ_ _ f k=>DD f (k.1.2.1) (k.2.2) O O) λc54=>QK (wH I Xg .u1)<|QK (wH I Xg .u2)<|QP I (λ_ _ f k=>DD f (k.1.2.1) (k.1.1.2.2) O O) λc57=>QP I (λ_ _ f k=>QCR f (k.1.2) (k.2) O O) λc58=>QK (wH I Xg .u2)<|QK (wH I Xg .here)<|QP I (λ_ _ f k=>DD f (k.1.1.1.1.2.2) (k.1.1.1.2.2) O O) λc61=>QP I (λ_ _ f k=>Mz f (k.1.2) (k.2) (e5) O O) λ_=>QK (QF I)<|Q7<|QC<|QY ?_
 exact QJO I I (by rw[BR]) w8
theorem QDv(hF:Fits F w)(hx:JU x<=100000)(hy:JU y<=100000):Qg prog 14 [tx (Js x),tx (Js y)] w F (tx (Js (x*y))):=by
 refine QV.intro (G:=λF=>True) func14 rfl wy rfl rfl hF w8<|QI7<|wQ rfl<|wR rfl<|QI rfl (λ_ _ f k=>O1 f (hx)) λc17=>JM _ (λ_ _ f k=>k.2) λp17=>QH0 rfl<|QA (QX rfl rfl)<|QA (QX rfl rfl)<|QA (QX rfl rfl)<|QH1 rfl<|QH1 rfl<|wQ rfl<|wR rfl<|QI rfl (λ_ _ f k=>O1 f (hy)) λc23=>JM _ (λ_ _ f k=>k.2) λp23=>?_
 refine QJK 14 I ?_;refine Ql (t:=28) rfl (λhb28=>?_) λhb28=>?_
 ·refine QJK 5 I ?_;refine QR I (λhc=>?_) λhc=>?_
  ·refine QG ?_;obtain⟨a1,a2,a3,a4⟩:=p17 hb28;obtain⟨b1,b2,b3,b4⟩:=p23 hc;have xd:=x.den_pos;have yd:=y.den_pos;have e1:(x.num*y.den).natAbs<1000000000*1000000000:=by rw[ba];exact aE a3 O
   have e2:(y.num*x.den).natAbs<1000000000*1000000000:=by rw[ba];exact aE b3 O
   have e3:(x.num*y.num).natAbs<1000000000*1000000000:=by rw[ba];exact aE a3 b3
   have e4:((x.den:Int)*y.den).natAbs<1000000000*1000000000:=by rw[ba];exact aE O O
   have e5:(x.den:Int)*y.den≠0:=by have h1:=Kn x;have h2:=Kn y;exact bz h1 h2
   rw[a1,a2,b1,b2];refine wA 3 I<|QA (M0 I I O)<|wB 2 I<|QA (M0 I I O)<|QI I (λ_ _ f k=>QCS f O O (e5)) λ_=>wQ I<|QY ?_
   exact QJO I I (by rw[BH]) w8
  refine QJL 3 I ?_;have s1:=Jx x;have s2:=Jo x;have s3:=Jx y;have s4:=Jo y;have m1:=K3 x.num y.den;have m2:=K3 y.num x.den;have m3:=K3 (x.den:Int) y.den;have m4:=K3 x.num y.num;have m5:=LM (x.num*y.den) (y.num*x.den);have e5:(x.den:Int)*y.den≠0:=bz (Kn x) (Kn y);refine wA 2 I<|QI I (λ_ _ f k=>My f (hx)) λc40=>wB 3 I<|Qc Dp λb11=>Qc Dp λb12=>QU (vs:=[_,_]) I I I Xg I .u1 .h2 wT<|QU (vs:=[_,_]) I I I Xg I .here .h2 wT<|QJK 5 I<|QI I (λ_ _ f k=>My f (hy)) λc45=>wB 3 I<|Qc Dp λb13=>Qc Dp λb14=>QU (vs:=[_,_]) I I I Xg I .u1 .h2 wT<|QU (vs:=[_,_]) I I I Xg I .here .h2 wT<|QE<|QC ?_
  refine QG<|JH QIM mixed wm<|QK (wH I Xg .u3)<|QK (wH I Xg .u1)<|QP I (λ_ _ f k=>DD f (k.1.2.1) (k.2.1) O O) λc50=>QK (wH I Xg .u2)<|QK (wH I Xg .here)<|QP I (λ_ _ f k=>DD f (k.1.1.2.2) (k.1.2.2) O O) λc53=>QP I (λ_ _ f k=>Mz f (k.1.2) (k.2) (e5) O O) λ_=>QK (QF I)<|Q7<|QC<|QY ?_
  exact QJO I I (by rw[BH]) w8
 refine QJK 4 I<|Yv I<|QJL 3 I ?_
 have s1:=Jx x;have s2:=Jo x;have s3:=Jx y;have s4:=Jo y;have m1:=K3 x.num y.den;have m2:=K3 y.num x.den;have m3:=K3 (x.den:Int) y.den;have m4:=K3 x.num y.num;have m5:=LM (x.num*y.den) (y.num*x.den);have e5:(x.den:Int)*y.den≠0:=bz (Kn x) (Kn y);refine wA 2 I<|QI I (λ_ _ f k=>My f (hx)) λc40=>wB 3 I<|Qc Dp λb11=>Qc Dp λb12=>QU (vs:=[_,_]) I I I Xg I .u1 .h2 wT<|QU (vs:=[_,_]) I I I Xg I .here .h2 wT<|QJK 5 I<|QI I (λ_ _ f k=>My f (hy)) λc45=>wB 3 I<|Qc Dp λb13=>Qc Dp λb14=>QU (vs:=[_,_]) I I I Xg I .u1 .h2 wT<|QU (vs:=[_,_]) I I I Xg I .here .h2 wT<|QE<|QC ?_
 refine QG<|JH QIM mixed wm<|QK (wH I Xg .u3)<|QK (wH I Xg .u1)<|QP I (λ_ _ f k=>DD f (k.1.2.1) (k.2.1) O O) λc50=>QK (wH I Xg .u2)<|QK (wH I Xg .here)<|QP I (λ_ _ f k=>DD f (k.1.1.2.2) (k.1.2.2) O O) λc53=>QP I (λ_ _ f k=>Mz f (k.1.2) (k.2) (e5) O O) λ_=>QK (QF I)<|Q7<|QC<|QY ?_
 exact QJO I I (by rw[BH]) w8
theorem QDq(hF:Fits F w)(hx:JU x<=100000)(hy:JU y<=100000):Qg prog 12 [tx (Js x),tx (Js y)] w F (tx (Js (x-y))):=by
 have hly:=UQ y;refine QV.intro (G:=λF=>True) func12 rfl wy rfl rfl hF w8<|QI7<|wQ rfl<|wR rfl<|QH0 rfl<|QI rfl (λ_ _ f k=>QGY f O) λ_=>?_
 rw[QCd];refine QI I (λ_ _ f k=>QAv f (hx) (by rw[Vk];exact hy)) (λ_=>wQ I<|QY ?_);exact QJO I I (by rw[Rat.sub_eq_add_neg]) w8
theorem Xcw(hF:Fits F w)(h0:x.num≠0)(hx:JU x<=100000):Qg prog 96 [tx (Js x)] w F (tx (Js x⁻¹)):=by
 have s1:=Jx x;have s2:=Jo x;refine QV.intro (G:=λF=>True) func96 rfl wy rfl rfl hF w8<|QI7<|wQ rfl<|wR rfl<|QI rfl (λ_ _ f k=>My f (hx)) λc7=>QH0 rfl<|QA (QX rfl rfl)<|QA (QX rfl rfl)<|Qc Dp λb3=>Qc Dp λb4=>QU (vs:=[_,_]) rfl rfl rfl Xg rfl .u1 .h2 wT<|QU (vs:=[_,_]) rfl rfl rfl Xg rfl .here .h2 wT<|QHz<|QI7<|QA (wH I Xg .here)<|QA (wH I Xg .u1)<|QI rfl (λ_ _ f k=>Mz f (k.2.2) (k.2.1) (h0) O O) λ_=>QH1 rfl ?_
 refine QHz<|QY ?_
 exact QJO I I (by rw[inv_divInt h0]) w8
theorem Xdt(hF:Fits F w)(h0:y.num≠0)(hx:JU x<=100000)(hy:JU y<=100000):Qg prog 30 [tx (Js x),tx (Js y)] w F (tx (Js (x/y))):=by
 refine QV.intro (G:=λF=>True) func30 rfl wy rfl rfl hF w8<|QI7<|wQ rfl<|wR rfl<|QH0 rfl<|QI rfl (λ_ _ f k=>Xcw f (h0) (hy)) λ_=>QI rfl (λ_ _ f k=>QDv f (hx) (wk<|Nn h0)) λ_=>wQ I<|QY ?_
 exact QJO I I (by rw[bB]) w8
theorem QAu(hF:Fits F w)(hx:JU x<=100000)(hy:JU y<=100000):Qg prog 10 [tx (Js x),tx (Js y)] w F (.int .i64 (Yb x y)):=by
 refine QV.intro (G:=λF=>True) func10 rfl wy rfl rfl hF w8<|QI7<|wQ rfl<|wR rfl<|QH0 rfl<|QI rfl (λ_ _ f k=>QDq f O O) λ_=>QI rfl (λ_ _ f k=>jy f ) λ_=>wQ rfl<|QY ?_
 exact QJO I I (by rw[uq,QFi]) w8
theorem QCo(hF:Fits F w)(hl:s.length<=1000000)(h1:ZG (aa (s.take (ahead Zx s)) [45])=true)(h2:ahead Zx s<s.length->ZG (aa (s.drop (ahead Zx s+1)) [45])=true):QV prog 53 [tx s] w F Ri.v2 (λc F=>E4 F c.1 (Y7 (s.take (ahead Zx s)))/\(ahead Zx s<s.length->E4 F c.2 (Y7 (s.drop (ahead Zx s+1))))):=by
 have hah:=Ep Zx s;refine QV.intro (G:=λF=>True) func53 rfl wy rfl rfl hF w8<|QI7<|Qc Dp λb2=>Qc Dp λb3=>QHz<|wR rfl<|wQ rfl<|wR rfl<|QI rfl (λ_ _ f k=>Sx f O) λ_=>wQ rfl<|QG<|wR rfl<|QH0 rfl ?_
 refine QA (Xj I Zk)<|QJK 3 I ?_
 refine QR I (λhc=>?_) λhc=>?_
 ·have hd:ahead Zx s=s.length:=by have:(ahead Zx s:Int)=(s.length:Int):=(by simpa using hc);omega
  refine wR I<|QI I (λ_ _ f k=>Sy f (by rw[hd,aL]at h1;exact h1) O) λc14=>QI I (λ_ _ f k=>Iq f wu) λc15=>QU (vs:=[_,_]) I I I Xg I .u1 .h2 wT<|QU (vs:=[_,_]) I I I Xg I .here .h2 wT<|QHz<|QY ?_
  exact Jd ((c14,c15):Ri×Ri) rfl (.JX (c:=[_,_]) I Xg .u1 (.JX (c:=[_,_]) I Xg .here .nil)) (rfl) λF h9=>⟨by rw[hd,aL];exact h9.1.2,λg=>O⟩
 have hd:ahead Zx s<s.length:=by rcases aW (ahead Zx s) s.length with g | g;exact g;exact absurd (show ahead Zx s=s.length by omega) λe=>by rw[e]at hc;simp at hc
 refine QJL 3 I<|JH (.cons _ (.cons _ .slnil)) mixed wm<|QK (QD I)<|QK (QD I)<|QK (Mn (ahead Zx s) rfl rfl Zk I O)<|QP I (λ_ _ f k=>Sy f (h1) (by rw[ay];omega)) λc19=>QK (QD I)<|QK (QD I)<|QK (Qw I I O)<|QK (GC ((ahead Zx s+1)) I I Zk wM O)<|QP I (λ_ _ f k=>Sy f (h2 hd) (by rw[aM];omega)) λc24=>JR (vs:=[_,_]) I I I Xg I .u1 (.cons _ .slnil) (λ_ h=>h.1.1) .h2 wT<|JR (vs:=[_,_]) I I I Xg I .here (.cons _ .slnil) (λ_ h=>h.1.1) .h2 wT<|Q7<|QC<|QY ?_
 exact Jd ((c19,c24):Ri×Ri) rfl (.JX (c:=[_,_]) I Xg .u1 (.JX (c:=[_,_]) I Xg .here .nil)) (rfl) λF h9=>⟨h9.1.2,λ_=>h9.2⟩
def vY(s:List UInt8):Bool:=!Xt ((aa s [45]).take (ahead Zx (aa s [45])))||(ar s [45]&&(aa s [45]).take (ahead Zx (aa s [45]))==[48])
def U2(s:List UInt8):List UInt8:=(aa s [45]).drop (ahead Zx (aa s [45])+1)
def Aa(s:List UInt8):Bool:=decide (ahead Zx (aa s [45])<(aa s [45]).length)
def kZ(s:List UInt8):Bool:=Aa s&&(!Xt (U2 s)||(U2 s==[48]||U2 s==[49]))
def vX(s:List UInt8):Bool:=decide (600<ahead Zx (aa s [45]))||decide (600<(U2 s).length)
def pc(s:List UInt8):Bool:=Aa s&&!(bw (Jc ((aa s [45]).take (ahead Zx (aa s [45])))) (Jc (U2 s))==1)
def IE(s:List UInt8):Int:=if vY s=true then 1 else if kZ s=true then 1 else if vX s=true then 4 else if pc s=true then 1 else 0
def xI{l:List UInt8}(h:(!Xt l)=false):0<l.length:=by
 rcases aB l.length with g | g
 ·rw[ao g]at h;simp[Xt]at h
 exact g
def QFG{p:UInt8->Bool}(h:∀c∈s,p c=true):s.takeWhile p=s:=by
 induction s with
 |nil=>rfl
 |cons c r ih=>rw[eM (h c wz),ih (λd hd=>h d (by simp[hd]))]
def QCM{l:List UInt8}(h:ZG l=true):sz (Jc l:Int)<=4*l.length:=by
 rw[XO];have h1:=HK h;have h2:10^l.length<=2^(4*l.length):=by rw[Nat.pow_mul];exact ep wu _
 simp;omega
theorem QDH(s:List UInt8):(Yo 47 s).1=s.take (ahead Zx s)/\(Yo 47 s).2.1=s.drop (ahead Zx s+1)/\(Yo 47 s).2.2=decide (ahead Zx s<s.length):=by
 have hf:(λc:UInt8=>!Zx c)=λc=>c != 47:=by funext c;simp[Zx,bne]
 have h1:=V6 (λc:UInt8=>c != 47) s;have ha:ahead Zx s=(s.takeWhile λc=>c != 47).length:=by unfold ahead;rw[hf]
 rw[ha];by_cases hc:s.contains 47=true
 ·have e:Yo 47 s=(s.takeWhile (· != 47),(s.dropWhile (· != 47)).drop 1,true):=by unfold Yo;rw[if_pos hc]
  rw[e];obtain⟨r,hr⟩:=Mp (show(47:UInt8)∈s by simpa using hc);have hd:=h1.2;rw[hr]at hd;refine⟨h1.1.symm,?_,?_⟩
  ·show(s.dropWhile (· != 47)).drop 1=_;rw[hr,<-aG,hd]
  have:(s.takeWhile λc=>c != 47).length<s.length:=by
   have:=congrArg eC hd;rw[aM,aN]at this;omega
  simp[this]
 have e:Yo 47 s=(s,[],false):=by unfold Yo;rw[if_neg hc]
 rw[e];have h2:s.takeWhile (λc=>c != 47)=s:=by
  refine QFG λc hm=>?_;have:c≠47:=by rintro rfl;exact hc (by simpa using hm)
  simpa using this
 rw[h2];simp
theorem QDe(s:List UInt8):aa (Yo 47 s).1 [45]=(Yo 47 (aa s [45])).1/\ar (Yo 47 s).1 [45]=ar s [45]/\(Yo 47 s).2=(Yo 47 (aa s [45])).2:=by
 cases s with
 |nil=>exact⟨rfl,rfl,rfl⟩
 |cons c r =>
  by_cases hc:c=45
  ·subst hc;have e:aa (45::r) [45]=r:=rfl;rw[e];unfold Yo;have h0:((45:UInt8)::r).contains 47=r.contains 47:=wz;rw[h0];split
   ·exact⟨rfl,rfl,rfl⟩
   exact⟨rfl,rfl,rfl⟩
  have hp:ar (c::r) [45]=false:=by
   rw[EE wz];simpa using hc
  have e:aa (c::r) [45]=c::r:=by unfold aa;rw[if_neg (by rw[hp];decide)]
  rw[e];have e2:∀l:List UInt8,ar l [45]=false->aa l [45]=l:=λl h=>by unfold aa;rw[if_neg (by rw[h];decide)]
  have h3:ar (Yo 47 (c::r)).1 [45]=false:=by
   unfold Yo;split
   ·by_cases h47:c=47
    ·subst h47;rfl
    rw[eM (by simpa using h47),EE wz];simpa using hc
   exact hp
  exact⟨e2 _ h3,by rw[h3,hp],rfl⟩
def QFk(h1:vY s=false)(h2:kZ s=false)(hk:ahead Zx (aa s [45])<(aa s [45]).length):ZG ((aa s [45]).take (ahead Zx (aa s [45])))=true/\ZG (U2 s)=true:=by
 have hs:Aa s=true:=by simp[Aa];exact hk
 simp only[vY,ee,eZ]at h1;simp only[kZ,hs,Bool.true_and,ee,eZ]at h2;exact⟨WC h1.1,WC h2.1⟩
theorem QDF(s:List UInt8):IE s=Jk s:=by
 obtain⟨t1,t2,t3⟩:=QDe s;obtain⟨c1,c2,c3⟩:=QDH (aa s [45]);have t4:(Yo 47 s).2.1=U2 s:=by rw[t3,c2];rfl
 have t5:(Yo 47 s).2.2=Aa s:=by rw[t3,c3];rfl
 have hlen:(aa s [45]).take (ahead Zx (aa s [45]))=(aa s [45]).take (ahead Zx (aa s [45])):=rfl;have hk:((aa s [45]).take (ahead Zx (aa s [45]))).length=ahead Zx (aa s [45]):=by
  rw[ay];have:=Ep Zx (aa s [45]);omega
 unfold Jk Hn IE I9 vY kZ vX pc;rw[t1,t2,t4,t5,c1,hk];generalize (aa s [45]).take (ahead Zx (aa s [45]))=a;generalize U2 s=d;generalize Aa s=f;generalize ar s [45]=n;have e:(!Xt a||(n&&a==[48])||(f&&(!Xt d||d==[48]||d==[49])))=((!Xt a||(n&&a==[48]))||(f&&(!Xt d||(d==[48]||d==[49])))):=by rw[Bool.or_assoc (!Xt d)]
 rw[e];cases (!Xt a||(n&&a==[48]))<;>cases (f&&(!Xt d||(d==[48]||d==[49])))<;>rfl
theorem vo(hF:Fits F w)(hl:s.length<=9223372036854775807):Qg prog 38 [tx s] w F (.int .i64 (Jk s)):=by
 rw[<-QDF];have hln:(aa s [45]).length<=s.length:=AM _ _;have hah:=Ep Zx (aa s [45]);refine QV.intro (G:=λF=>True) func38 rfl wy rfl rfl hF w8<|QI7<|wQ rfl<|wR rfl<|QH1 rfl<|QE<|QC ?_
 refine Zc [(0,_)] [(3,tx (aa s [45]))] wS ?_ ?_
 ·refine Zc [(0,_),(3,_)] [(16,.bool (ar s [45]))] wT ?_ ?_
  ·refine wA 2 I<|QA (Xj I Zk)<|wB 2 I ?_
   refine Ql (t:=12) rfl (λhb12=>?_) λhb12=>?_
   ·refine wB 3 I<|QA (Hj (i:=0) rfl rfl Zk (wk<|QJG hb12))<|wB 4 I ?_
    exact JY ⟨rfl,rfl,(congrArg (λb=>some (ab b)) (by have h0:0<s.length:=(wk<|QJG hb12);rw[EE h0];exact AI I)),trivial⟩ QIM w9
   refine wB 5 I ?_;exact JY ⟨rfl,rfl,(congrArg (λb=>some (ab b)) (by have h0:s.length=0:=(wk<|QJH hb12);rw[ao h0];rfl)),trivial⟩ QIM w9
  simp only[ag,ah];refine QR I (λhc=>?_) λhc=>?_
  ·refine wA 2 I<|QA (GC (1) rfl rfl Zk I (Li hc))<|wB 2 I ?_
   exact JY ⟨rfl,(congrArg (λl=>some (tx l)) (by unfold aa;rw[if_pos hc];rfl)),trivial⟩ QIM w9
  refine QO ?_;exact JY ⟨rfl,(congrArg (λl=>some (tx l)) (by unfold aa;rw[hc];rfl)),trivial⟩ QIM w9
 simp only[ag,ah];refine wR I<|QI I (λ_ _ f k=>Sx f O) λ_=>wQ I<|QG ?_
 refine Zc [(3,_),(4,_)] [(36,.bool (vY s))] wT ?_ ?_
 ·refine wA 3 I<|QA (Mn ((ahead Zx (aa s [45]))) I I Zk I O)<|QI I (λ_ _ f k=>QCT f (by rw[ay];omega)) λ_=>QA (XB I)<|QH0 I ?_
  refine Ql (t:=26) rfl (λhb26=>?_) λhb26=>?_
  ·refine wB 4 I<|Jn I I<|Jn I I<|Jn I I<|Jn I I<|wB 3 I ?_
   exact JY ⟨rfl,rfl,(congrArg (λb=>some (ab b)) (by simp[vY]at hb26 ⊢;simp[hb26])),trivial⟩ QIM tA
  refine wB 3 I<|QA (Hj (i:=0) rfl rfl Mu (by have h1:=xI hb26;rw[ay]at h1;omega))<|wB 4 I ?_
  refine Ql (t:=30) rfl (λhb30=>?_) λhb30=>?_
  ·refine wB 5 I<|QA (Mn ((ahead Zx (aa s [45]))) I I Zk I O)<|QM I I<|QA (K6 I I)<|wB 4 I ?_
   exact JY ⟨rfl,rfl,(congrArg (λb=>some (ab b)) (by have h0:0<s.length:=(by have h1:=xI hb26;rw[ay]at h1;omega);have hp:ar s [45]=true:=(by rw[EE h0,<-AI (z:=45) rfl];exact hb30);simp[vY]at hb26 ⊢;simp[hb26,hp])),trivial⟩ QIM tA
  refine wB 8 I ?_;exact JY ⟨rfl,rfl,(congrArg (λb=>some (ab b)) (by have h0:0<s.length:=(by have h1:=xI hb26;rw[ay]at h1;omega);have hp:ar s [45]=false:=(by rw[EE h0,<-AI (z:=45) rfl];exact hb30);simp[vY]at hb26 ⊢;simp[hb26,hp])),trivial⟩ QIM tA
 simp only[ag,ah];refine QR I (λhc=>?_) λhc=>?_
 ·have hb1:vY s=true:=hc;refine wA 6 I ?_;exact QJO I I (congrArg (af .i64) (by simp[IE,hb1])) w8
 have hb1:vY s=false:=hc;refine QJL 3 I ?_;refine Zc [(3,_),(4,_)] [(62,.bool (kZ s))] wT ?_ ?_
 ·refine wA 3 I<|QA (Xj I Zk)<|wB 2 I ?_
  refine Ql (t:=41) rfl (λhb41=>?_) λhb41=>?_
  ·refine wB 5 I<|QA (Qw I I (by first | omega | (simp only[decide_eq_true_eq]at *;omega)))<|QM I I<|QA (GC (((ahead Zx (aa s [45]))+1)) I I Zk wM (wk<|QJG hb41))<|QM I I<|QI I (λ_ _ f k=>QCT f (by rw[aM];omega)) λ_=>QM I I<|QA (XB I)<|wB 2 I ?_
   refine Ql (t:=48) rfl (λhb48=>?_) λhb48=>?_
   ·refine wB 18 I ?_;exact JY ⟨rfl,rfl,(congrArg (λb=>some (ab b)) (by have h1:Aa s=true:=(by simp[Aa];simpa using hb41);simp[kZ,h1];simp at hb48;exact .inl hb48)),trivial⟩ QIM tA
   refine wB 5 I<|QA (Qw I I (by first | omega | (simp only[decide_eq_true_eq]at *;omega)))<|QM I I<|QA (GC (((ahead Zx (aa s [45]))+1)) I I Zk wM (wk<|QJG hb41))<|QM I I<|QA (K6 I I)<|wB 4 I ?_
   refine Ql (t:=55) rfl (λhb55=>?_) λhb55=>?_
   ·refine wB 9 I ?_;exact JY ⟨rfl,rfl,(congrArg (λb=>some (ab b)) (by have h1:Aa s=true:=(by simp[Aa];simpa using hb41);simp[kZ,h1];exact .inr (.inl (by simpa[U2]using hb55)))),trivial⟩ QIM tA
   refine wB 5 I<|QA (Qw I I (by first | omega | (simp only[decide_eq_true_eq]at *;omega)))<|QM I I<|QA (GC (((ahead Zx (aa s [45]))+1)) I I Zk wM (wk<|QJG hb41))<|QM I I<|QA (K6 I I)<|wB 4 I ?_
   exact JY ⟨rfl,rfl,(congrArg (λb=>some (ab b)) (by have h1:Aa s=true:=(by simp[Aa];simpa using hb41);simp at hb48 hb55;simp[kZ,h1,U2,hb48,hb55])),trivial⟩ QIM tA
  refine wB 7 I<|Jn I I<|Jn I I<|Jn I I<|Jn I I<|Jn I I<|wB 2 I<|Jn I I<|Jn I I<|Jn I I<|Jn I I<|Jn I I<|wB 3 I ?_
  exact JY ⟨rfl,rfl,(congrArg (λb=>some (ab b)) (by have h1:Aa s=false:=(by simp[Aa];simpa using hb41);simp[kZ,h1])),trivial⟩ QIM w9
 simp only[ag,ah];refine QR I (λhc=>?_) λhc=>?_
 ·have hb2:kZ s=true:=hc;refine wA 6 I ?_;exact QJO I I (congrArg (af .i64) (by simp[IE,hb1,hb2])) w8
 have hb2:kZ s=false:=hc;refine QJL 3 I ?_;refine Zc [(3,_),(4,_)] [(72,.bool (vX s))] wT ?_ ?_
 ·refine wA 4 I ?_;refine Ql (t:=65) rfl (λhb65=>?_) λhb65=>?_
  ·refine wB 8 I ?_;exact JY ⟨rfl,rfl,(congrArg (λb=>some (ab b)) (by have:=QJG hb65;simp[vX];left;omega)),trivial⟩ QIM w9
  refine wB 3 I<|QA (Xj I Zk)<|wB 3 I<|QA (X3 I I O)<|QM I I<|QA (X3 I I O)<|wB 4 I ?_
  exact JY ⟨rfl,rfl,(congrArg (λb=>some (ab b)) (by rw[ae];have:=QJH hb65;simp[vX,U2];omega)),trivial⟩ QIM w9
 simp only[ag,ah];refine QR I (λhc=>?_) λhc=>?_
 ·have hb3:vX s=true:=hc;refine wA 6 I ?_;exact QJO I I (congrArg (af .i64) (by simp[IE,hb1,hb2,hb3])) w8
 have hb3:vX s=false:=hc;have hk6:ahead Zx (aa s [45])<=600:=by simp[vX]at hb3;exact hb3.1
 refine QJL 7 I<|QA (Xj I Zk)<|QJK 3 I ?_
 refine QR I (λhc=>?_) λhc=>?_
 ·have hk:ahead Zx (aa s [45])<(aa s [45]).length:=wk<|QJG hc
  obtain⟨da,dd⟩:=QFk hb1 hb2 hk;refine wR I<|QI I (λ_ _ f k=>QCo f (s:=(aa s [45])) (by have h6:(U2 s).length<=600:=(by simp[vX]at hb3;exact hb3.2);have h7:(U2 s).length=(aa s [45]).length-(ahead Zx (aa s [45])+1):=(by unfold U2;rw[aM]);omega) (by rw[V5 da];exact da) λ_=>by rw[show(List.drop (ahead Zx (aa s [45])+1) (aa s [45]))=U2 s from rfl,V5 dd];exact dd) λc79=>QH0 rfl<|QA (QX rfl rfl)<|QA (QX rfl rfl)<|Qc Dp λb5=>Qc Dp λb6=>QU (vs:=[_,_]) rfl rfl rfl Xg rfl .u1 .h2 wT<|QU (vs:=[_,_]) rfl rfl rfl Xg rfl .here .h2 wT<|QHz<|QG<|XS _ (λ_ _ f h=>aO h.2.1.p (aO (h.2.2 hk).p (aO h.2.1.1.2.1 (h.2.2 hk).1.2.1))) λpp=>?_
  obtain⟨pa,pd,na,nd⟩:=pp;rw[YP da]at pa;have pd2:=pd;rw[show Y7 ((aa s [45]).drop (ahead Zx (aa s [45])+1))=Jc (U2 s)from YP dd]at pd2;have la:=pa.len;have ld:=pd2.len;have sa:=QCM da;have sd:=QCM dd;have h600:(U2 s).length<=600:=by simp[vX]at hb3;exact hb3.2
  rw[ay]at sa;refine QB<|QA (QH I WY Jz)<|QA (Qf I Jz .u1 (.skip .h1))<|QA (QH I WY Jz)<|QA (Qf I Jz .here (.skip .h1)) ?_
  refine QI I (λ_ _ f k=>vm f (a:=c79.1.l) (b:=c79.2.l) (ra:=c79.1.r) (rb:=c79.2.r) k.2.1.1 ((k.2.2 hk).1) (pa.dg) (pd.dg) (pa.nz) (pd.nz) O O) (λc86=>?_);rcases c86 with ⟨v86,l86⟩;dsimp only;refine JM _ (λw F hF ⟨⟨⟨hT,_⟩,h79⟩,⟨h86,h86p⟩⟩=>aO h86.2 h86p) (λp86=>QH1 rfl<|QE<|QC ?_);refine Zc [] [(95,.bool (pc s))] trivial ?_ ?_
  ·have hgc:dv B9 l86=(bw (Jc ((aa s [45]).take (ahead Zx (aa s [45])))) (Jc (U2 s)):Nat):=by
    rw[p86.2.2.2,cZ pa pd2];rfl
   have hone:=yC p86.2.1 p86.2.2.1;have hsl:Aa s=true:=by simp[Aa];exact hk
   refine wA 2 I<|QA (Qh I JC)<|wB 2 I ?_
   refine Ql (t:=90) rfl (λhb90=>?_) λhb90=>?_
   ·refine wB 6 I ?_;exact JY ⟨(congrArg (λb=>some (ab b)) (by have h1:¬l86.length=1:=(by simp at hb90;omega);rw[ae];simp[pc,hsl];intro g;exact h1 (hone.2 (by rw[hgc,g];rfl)).1)),trivial⟩ QIM w9
   have hn1:v86.n=1:=by simp at hb90;omega
   refine wB 3 I<|QA (Q3 (n:=v86.n) (0) (λF h9=>(h9.2.1).1) rfl wM JC JO O)<|QM I I<|QA (Q5 (n:=v86.n) ((0)*1) (λF h9=>(h9.2.1).1) O rfl JO (J6 (o:=l86) O))<|wB 4 I ?_
   exact JY ⟨(congrArg (λb=>some (ab b)) (by have h1:l86.length=1:=O;rw[ae];simp[pc,hsl];exact not_congr ⟨λe=>by have h2:=hone.1 ⟨h1,e⟩;rw[hgc]at h2;omega,λe=>(hone.2 (by rw[hgc,e];rfl)).2⟩)),trivial⟩ QIM w9
  simp only[ag,ah];refine QR I (λhc=>?_) λhc=>?_
  ·have hg4:pc s=true:=hc;refine wA 6 I ?_;exact QJO I I (congrArg (af .i64) (by simp[IE,hb1,hb2,hb3,hg4])) w8
  have hg4:pc s=false:=hc;refine QJL 8 I ?_;exact QJO I I (congrArg (af .i64) (by simp[IE,hb1,hb2,hb3,hg4])) w8
 have hg4:pc s=false:=by have:=QJH hc;simp[pc,Aa];intro g;omega
 refine QJL 8 I ?_;exact QJO I I (congrArg (af .i64) (by simp[IE,hb1,hb2,hb3,hg4])) w8
theorem O2(hF:Fits F w)(hl:s.length<=1000000):Qg prog 38 [tx s] w F (.int .i64 (Jk s)) :=
 vo hF (bh hl wu)
theorem dA{a b:List UInt8}(hF:Fits F w)(ha:Jk a=0)(hb:Jk b=0):Qg prog 10 [tx a,tx b] w F (.int .i64 (Yb (Qo a) (Qo b))):=by
 have h1:=Yf ha;have h2:=Yf hb;have:=QAu (x:=Qo a) (y:=Qo b) hF O O;rw[<-(XH ha).1,<-(XH hb).1]at this;exact this
theorem Xbx{q:Option Addr}{c:Nat}{l:List (List UInt8)}(hF:Fits F w)(hR:Qx F q n 1 (l.map tx))(hl:l.length=n/\∀s∈l,s.length<=1000000)(hn:n<=1000000):Qg prog 26 [.slice q n c] w F (.int .i64 (Qu (l.map Jk))):=by
 have hln:=hl.1;refine QV.intro (G:=λF=>Qx F q n 1 (l.map tx)) func26 rfl wy rfl rfl hF (λF' hF'=>hR.le hF')<|QI7<|wQ rfl<|QG<|QI7<|wQ rfl<|QW<|XK (ι:=ZO l Jk) [(0,_)] (λi=>[(3,.int .i64 ((i.i:Nat):Int))]) (λi=>l.length-i.i) (ZO.start _ _) wS wS λi=>?_
 simp only[ag,ah];refine wA 5 I<|QA (Qh I KE)<|QJK 3 I ?_
 refine QR I (λhc=>?_) λhc=>?_
 ·have hi:i.i<l.length:=wk<|QJG hc
  refine QJL 8 I<|QA (Q3 (n:=n) i.i w9 rfl rfl KE JP O)<|QA (Q5 (n:=n) ((i.i)*1) w9 O rfl JP (XL (f:=tx) (l:=l) O))<|QI I (λ_ _ f k=>O2 f (hl.2 _ (Qv hi))) λ_=>QJK 9 I ?_
  refine QR I (λhc=>?_) λhc=>?_
  ·refine wA 7 I ?_
   repeat first|refine Q6 ?_|refine Qy ?_
   exact QJO I I (congrArg (af .i64) (i.hit hi (by simpa using hc))) w8
  refine QO<|Qk<|QJM 3 I<|QA (Qw I I O)<|wB 2 I ?_
  exact Qm (i.next hi (by simpa using hc)) (by show l.length-(i.i+1)<l.length-i.i;omega) wT QIM tA
 have hi:l.length<=i.i:=wk<|QJH hc
 refine Qz ?_
 repeat first|refine QZ ?_|refine QQ wy ?_
 refine Qa<|QJM 7 I ?_
 exact QJO I I (congrArg (af .i64) (i.stop hi)) w8
theorem dC{lo hi:List UInt8}(hF:Fits F w)(hl:lo.length<=1000000/\hi.length<=1000000):Qg prog 147 [.agg #[tx lo,tx hi]] w F (.int .i64 (XX lo hi)):=by
 refine QV.intro (G:=λF=>True) func147 rfl wy rfl rfl hF w8<|QI7<|Qs rfl (vs:=[_,_]) rfl λb1=>wQ rfl<|QI7<|QA (QH rfl B4 JP)<|QA (Qf rfl JP .here .h1)<|QI rfl (λ_ _ f k=>O2 f (hl.1)) λ_=>QH1 rfl<|QE<|QC ?_
 refine Zc [(1,_)] [(3,.int .i64 (Qu [Jk lo,Jk hi]))] wS ?_ ?_
 ·refine wA 6 I ?_;refine QR I (λhc=>?_) λhc=>?_
  ·refine QB<|QA (QH I De JP)<|QA (Qf I JP .here (.skip .h1))<|QI I (λ_ _ f k=>O2 f (hl.2)) λ_=>wB 2 I ?_
   exact JY ⟨rfl,(congrArg (λz:Int=>some (af .i64 z)) (by simp[Qu];simp at hc;simp[hc])),trivial⟩ QIM tA
  refine QO ?_;exact JY ⟨rfl,(congrArg (λz:Int=>some (af .i64 z)) (by simp[Qu];simp at hc;simp[hc])),trivial⟩ QIM w9
 simp only[ag,ah];refine wA 6 I ?_;refine Ql (t:=14) rfl (λhb14=>?_) λhb14=>?_
 ·refine QM I I ?_;obtain⟨k1,k2⟩:=MX (by simpa using hb14);refine QA (QH I B4 JP)<|QM I I<|QA (Qf I JP .here .h1)<|QM I I<|QA (QH I De JP)<|QM I I<|QA (Qf I JP .here (.skip .h1))<|QM I I<|QI I (λ_ _ f k=>dA f (k1) (k2)) λ_=>QJK 5 I ?_
  refine QR I (λhc=>?_) λhc=>?_
  ·refine wA 6 I ?_;exact QJO I I (congrArg (af .i64) (by unfold XX;rw[if_pos (by simpa using hb14),if_pos (QJG hc)])) w8
  refine QJL 9 I ?_;exact QJO I I (congrArg (af .i64) (by unfold XX;rw[if_pos (by simpa using hb14),if_neg (QJH hc)];symm;simpa using hb14)) w8
 refine QJK 9 I<|Yv I<|QJL 9 I ?_
 exact QJO I I (congrArg (af .i64) (by unfold XX;rw[if_neg (by simpa using hb14)])) w8
theorem jZ{q:Option Addr}{c:Nat}{l:List (List UInt8×List UInt8)}(hF:Fits F w)(hR:Qx F q n 2 (l.flatMap Pc))(hl:l.length=n/\∀s∈l,s.1.length<=1000000/\s.2.length<=1000000)(hn:n<=1000000):Qg prog 76 [.slice q n c] w F (.int .i64 (Qu (l.map λp=>XX p.1 p.2))):=by
 have hln:=hl.1;refine QV.intro (G:=λF=>Qx F q n 2 (l.flatMap Pc)) func76 rfl wy rfl rfl hF (λF' hF'=>hR.le hF')<|QI7<|wQ rfl<|QG<|QI7<|wQ rfl<|QW<|XK (ι:=ZO l λp=>XX p.1 p.2) [(0,_)] (λi=>[(3,.int .i64 ((i.i:Nat):Int))]) (λi=>l.length-i.i) (ZO.start _ _) wS wS λi=>?_
 simp only[ag,ah];refine wA 5 I<|QA (Qh I J9)<|QJK 3 I ?_
 refine QR I (λhc=>?_) λhc=>?_
 ·have hi:i.i<l.length:=wk<|QJG hc
  refine QJL 8 I<|QA (Q3 (n:=n) i.i w9 rfl rfl J9 Jq O)<|QA (JK (n:=n) (vs:=[tx (el l i.i).1,tx (el l i.i).2]) ((i.i)*2) w9 O rfl Jq I λj v hv=>JQ (f:=Pc) (l:=l) KZ O hv)<|QI I (λ_ _ f k=>dC f (hl.2 _ (Qv hi))) λ_=>QJK 9 I ?_
  refine QR I (λhc=>?_) λhc=>?_
  ·refine wA 7 I ?_
   repeat first|refine Q6 ?_|refine Qy ?_
   exact QJO I I (congrArg (af .i64) (i.hit hi (by simpa using hc))) w8
  refine QO<|Qk<|QJM 3 I<|QA (Qw I I O)<|wB 2 I ?_
  exact Qm (i.next hi (by simpa using hc)) (by show l.length-(i.i+1)<l.length-i.i;omega) wT QIM tA
 have hi:l.length<=i.i:=wk<|QJH hc
 refine Qz ?_
 repeat first|refine QZ ?_|refine QQ wy ?_
 refine Qa<|QJM 7 I ?_
 exact QJO I I (congrArg (af .i64) (i.stop hi)) w8
def NA(a:List UInt8)(d:Int):Bool:=decide ((a.length:Int)<=2*d+2)&&(Jk a==0&&(decide (((QDI (numOf a)).length:Int)<=d)&&decide (((cw a).length:Int)<=d)))
def vu(a:List UInt8):(numOf a).length<=a.length:=by unfold numOf;rw[ay];omega
def Uz(d:Int)(p:List UInt8×List UInt8):Bool:=NA p.1 d&&(NA p.2 d&&!decide (Yb (Qo p.1) (Qo p.2)>0))
def EX{a:List UInt8}{d:Int}(h:NA a d=true):Jk a=0:=by
 simp only[NA,fb,beq_iff_eq]at h;exact h.2.1
theorem Xcm:([49]:List UInt8)=Js 1:=by
 have h:(1:Rat).num=1:=rfl;unfold Js;rw[if_pos wy,h,XT wu];exact(Eg (l:=[49]) wu).symm
@[reducible] def spT (a:Rat×Rat):Value:=.agg #[tx (Js a.1),tx (Js a.2)]
def Sm(k:Nat)(a:Rat×Rat):Prop:=JU a.1<=k/\JU a.2<=k
theorem QF1{b:Rat×Rat}(hF:Fits F w)(hx:JU x<=100000)(hb:Sm 100000 b):Qg prog 28 [tx (Js x),spT b] w F (.bool (decide (Yb b.1 x<=0)&&decide (Yb x b.2<=0))):=by
 refine QV.intro (G:=λF=>True) func28 rfl wy rfl rfl hF w8<|QI7<|Qs rfl (vs:=[_,_]) rfl λb3=>wQ rfl<|QI7<|QA (QH rfl B4 JP)<|QA (Qf rfl JP .here .h1)<|QH0 rfl<|QI rfl (λ_ _ f k=>QAu f (hb.1) (hx)) λ_=>QA (QT rfl rfl rfl)<|QH0 rfl ?_
 refine Ql (t:=10) rfl (λhb10=>?_) λhb10=>?_
 ·refine wB 3 I<|QA (QH I De JP)<|QM I I<|QA (Qf I JP .here (.skip .h1))<|QM I I<|QI I (λ_ _ f k=>QAu f (hx) (hb.2)) λ_=>QJK 7 I ?_
  exact QJO I I (congrArg ab (by rw[hb10];simp)) w8
 refine QJK 10 I ?_;exact QJO I I (congrArg ab (by rw[hb10];simp)) w8
def Oz(p:Rat×Rat):List Value:=[tx (Js p.1),tx (Js p.2)]
def Oy(p:Rat×Rat):(Oz p).length=2:=rfl
section
variable[Dr][df:Df]{P:Program}{N:Nat}{m:Sl}{w0:World}{F0:Gs}{bs:List (Nat×Obj)}{G:Gs->Prop}
theorem Qx.Xe2{q:Option Addr}{sz:Nat}{cs:List Value}(h:Qx F q n sz cs)(e:q=none):n=0:=by
 rcases aB n with g | g
 ·exact g
 obtain⟨_,_,_,_,e2,_⟩:=h.2 g;rw[e]at e2;cases e2
end
def Xcc(c:Rat)(xs:List Rat)(ks:List Int)(i:Nat):Rat:=(fI i).foldl (λa j=>a*(el xs j)^(Qn ks j).toNat) c
def Xcr(c:Rat)(xs:List Rat)(ks:List Int)(i:Nat):Xcc c xs ks (i+1)=Xcc c xs ks i*(el xs i)^(Qn ks i).toNat:=by
 unfold Xcc;rw[List.range_succ,List.foldl_append];rfl
def Xd5(xs:List Rat)(l:List Tm):Rat:=l.foldl (λa t=>a+Xcc t.1 xs t.2 t.2.length) 0
structure QHM(a b:List Int) where
 i:Nat
 le:i<=a.length
 h:Yd a b=Yd (a.drop i) (b.drop i)
def QHM.step(s:QHM a b)(h1:s.i<a.length)(h2:s.i<b.length):Yd a b=(decide (Qn b s.i<Qn a s.i)||(decide (Qn a s.i=Qn b s.i)&&Yd (a.drop (s.i+1)) (b.drop (s.i+1)))):=by
 rw[s.h,Xo h1,Xo h2];rfl
theorem S1{r:Sr}(hF:Fits F w)(hR:XF F r l)(hp:PW l):Qg prog 102 [r.v] w F (.int .i64 l.sum):=by
 obtain⟨q,n,c⟩:=r;have hln:=hR.2.1;dsimp only[Sr.v]at hln ⊢;have hl1:=hp.2;refine QV.intro (G:=λF=>XF F ⟨q,n,c⟩ l) func102 rfl wy rfl rfl hF (λF' hF'=>hR.le hF')<|QI7<|wQ rfl<|QI7<|wQ rfl<|QG<|QI7<|wQ rfl<|QW<|XK (ι:={i:Nat // i<=l.length}) [(0,_)] (λi=>[(3,.int .i64 ((l.take i.1).sum)),(4,.int .i64 ((i.1:Nat):Int))]) (λi=>l.length-i.1) (⟨0,aJ _⟩) wS wT λi=>?_
 simp only[ag,ah];have hi:=i.2;have hs:=hp.sum i.1 hi;refine wA 5 I<|QA (Qh I JC)<|QJK 3 I ?_
 refine QR I (λhc=>?_) λhc=>?_
 ·have hlt:i.1<l.length:=wk<|QJG hc
  have he:=hp.el hlt;refine QJL 8 I<|QA (Q3 (n:=n) (i.1) (λF hR=>(hR).1) rfl rfl JC JO O)<|QA (Q5 (n:=n) ((i.1)*1) (λF hR=>(hR).1) O rfl JO (J6 (o:=l) O))<|QA (Qw I I O)<|wB 2 I<|Qk<|QJM 3 I<|QA (Qw I I O)<|wB 2 I ?_
  exact Qm (⟨i.1+1,hlt⟩) (by show l.length-(i.1+1)<l.length-i.1;omega) ⟨rfl,(congrArg (λz:Int=>some (af .i64 z)) (Sq hlt).symm),rfl,trivial⟩ QIM w9
 have hge:i.1=l.length:=wk<|QJH hc
 refine Qz ?_
 repeat first|refine QZ ?_|refine QQ wy ?_
 refine Qa<|QJM 8 I ?_
 exact QJO I I (congrArg (af .i64) (by rw[aq O])) w8
theorem QCq{q q2:Option Addr}{c n2 c2:Nat}(hF:Fits F w)(hA:XF F ⟨q,n,c⟩ a)(hB:XF F ⟨q2,n2,c2⟩ b)(pa:PW a)(pb:PW b)(hl:a.length=b.length):Qg prog 150 [.slice q n c,.slice q2 n2 c2] w F (.bool (before a b)):=by
 have na:=hA.2.1;have nb:=hB.2.1;dsimp only at na nb;have la:=pa.2;refine QV.intro (G:=λF=>XF F ⟨q,n,c⟩ a/\XF F ⟨q2,n2,c2⟩ b) func150 rfl wy rfl rfl hF (λF' hF'=>⟨hA.le hF',hB.le hF'⟩)<|QI7<|wQ rfl<|QG<|wR rfl<|QI rfl (λ_ _ f k=>S1 f (r:=⟨q,n,c⟩) k.1 (pa)) λ_=>QH0 rfl<|QI rfl (λ_ _ f k=>S1 f (r:=⟨q2,n2,c2⟩) k.1.2 (pb)) λ_=>QA (QT rfl rfl rfl)<|QE<|QC ?_
 refine QR I (λhc=>?_) λhc=>?_
 ·have hne:=bne_iff_ne.1 hc;refine wR I<|QI I (λ_ _ f k=>S1 f (r:=⟨q,n,c⟩) k.1.1.1 (pa)) λ_=>QH0 I<|QI I (λ_ _ f k=>S1 f (r:=⟨q2,n2,c2⟩) k.1.1.1.2 (pb)) λ_=>QJK 5 I ?_
  exact QJO I I (congrArg ab (by unfold before;rw[decide_eq_false hne,Bool.false_and,Bool.or_false])) w8
 have hne:=bne_eq_false_iff_eq.1 hc;refine QJL 9 I<|XK (ι:=QHM a b) [(0,_),(1,_)] (λi=>[(5,.int .i64 ((i.i:Nat):Int))]) (λi=>a.length-i.i) (⟨0,aJ _,rfl⟩) wT wS λi=>?_
 simp only[ag,ah];have hi:=i.le;refine wA 5 I<|QA (Qh I JC)<|QJK 3 I ?_
 refine QR I (λhc=>?_) λhc=>?_
 ·have hlt:i.i<a.length:=wk<|QJG hc
  refine QJL 5 I<|JH QIM mixed wm<|QK (QD I)<|QK (QD I)<|QK (Q3 (n:=n) i.i (λF h9=>(h9.1.1.1).1) rfl rfl JC JO O)<|QK (Q5 (n:=n) ((i.i)*1) (λF h9=>(h9.1.1.1).1) O rfl JO (J6 (o:=a) O))<|QK (QD I)<|QK (QD I)<|QK (Q3 (n:=n2) i.i (λF h9=>(h9.1.1.2).1) rfl rfl JC JO O)<|QK (Q5 (n:=n2) ((i.i)*1) (λF h9=>(h9.1.1.2).1) O rfl JO (J6 (o:=b) O))<|QK (QT I I I)<|Q7<|QC ?_
  refine QR I (λhc=>?_) λhc=>?_
  ·have he:=bne_iff_ne.1 hc;refine QG<|JH QIM mixed wm<|QK (QD I)<|QK (QD I)<|QK (Q3 (n:=n) i.i (λF h9=>(h9.1.1.1).1) rfl rfl JC JO O)<|QK (Q5 (n:=n) ((i.i)*1) (λF h9=>(h9.1.1.1).1) O rfl JO (J6 (o:=a) O))<|QK (QD I)<|QK (QD I)<|QK (Q3 (n:=n2) i.i (λF h9=>(h9.1.1.2).1) rfl rfl JC JO O)<|QK (Q5 (n:=n2) ((i.i)*1) (λF h9=>(h9.1.1.2).1) O rfl JO (J6 (o:=b) O))<|QK (QT I I I)<|QK (QF I)<|Q7<|QC<|QY ?_
   repeat first|refine Q6 ?_|refine Qy ?_
   exact QJO I I (congrArg ab (by unfold before;rw[i.step hlt O,decide_eq_false he,hne];simp)) w8
  have he:=bne_eq_false_iff_eq.1 hc;refine QO<|Qk<|QJM 3 I<|QA (Qw I I O)<|wB 2 I ?_
  exact Qm (⟨i.i+1,hlt,by rw[i.step hlt O,he];simp⟩) (by show a.length-(i.i+1)<a.length-i.i;omega) wU QIM w9
 have hge:i.i=a.length:=wk<|QJH hc
 refine Qz ?_
 repeat first|refine QZ ?_|refine QQ wy ?_
 refine Qa<|QJM 7 I ?_
 exact QJO I I (congrArg ab (by unfold before;rw[i.h,hge,bF (ax _),hne];simp[Yd])) w8
def QAj{f:List UInt8}{v:Int}(h1:(l.length:Int)=v+1)(h2:∀k∈l,0<=k):Y6 f l v=if decide (GB l>12)=true then 4 else Jk f:=by
 unfold Y6;rw[if_neg (λh=>h h1),if_neg (uL h2)];simp only[Qu];by_cases g:decide (GB l>12)=true
 ·rw[if_pos g,if_pos g,if_neg wu]
 rw[if_neg g,if_neg g,if_pos rfl];by_cases k:Jk f=0
 ·rw[k];rfl
 rw[if_neg k]
theorem vN{f:List UInt8}{q:Option Addr}{cap:Nat}{v:Int}(hF:Fits F w)(hGl:JE F)(hR:XF F ⟨q,n,cap⟩ l)(hf:f.length<=9223372036854775807)(hl:l.length<=9223372036854775807)(hv : -1000000<=v/\v<=1000000):Qg prog 149 [.agg #[tx f,.slice q n cap],.int .i64 v] w F (.int .i64 (Y6 f l v)):=by
 have hln:l.length=n:=hR.2.1;refine QV.intro (G:=λF=>JE F/\XF F ⟨q,n,cap⟩ l) func149 rfl wy rfl rfl hF (λF' hF'=>⟨hGl.le hF',hR.le hF'⟩)<|QI7<|Qs rfl (vs:=[_,_]) rfl λb2=>wQ rfl<|QG<|QI7<|QA (QH rfl Gw Jz)<|QA (Qf rfl Jz .here (.skip .h1))<|QA (Qh rfl JC)<|QH0 rfl<|QA (Qw rfl rfl O)<|QA (QT rfl rfl rfl)<|QE<|QC ?_
 refine QR I (λhc=>?_) λhc=>?_
 ·have hne:=bne_iff_ne.1 hc;refine wA 6 I ?_;exact QJO I I (congrArg (af .i64) (by unfold Y6;rw[if_pos (by rw[hln];exact hne)])) w8
 have heq:=bne_eq_false_iff_eq.1 hc;refine QJL 14 I<|XK (ι:=QFr l) [(2,_)] (λi=>[(5,.int .i64 (GB (l.take i.i))),(6,.int .i64 ((i.i:Nat):Int))]) (λi=>l.length-i.i) (⟨0,aJ _,wz⟩) wS wT λi=>?_
 simp only[ag,ah];have hi:=i.le;have hb:=Mc _ i.nn;rw[ay]at hb;refine wA 4 I<|QA (QH I Gw Jz)<|QA (Qf I Jz .here (.skip .h1))<|QA (Qh I JC)<|QJK 3 I ?_
 refine QR I (λhc=>?_) λhc=>?_
 ·have hlt:i.i<l.length:=wk<|QJG hc
  refine QJL 7 I<|QA (QH I Gw Jz)<|QA (Qf I Jz .here (.skip .h1))<|QH0 I<|QA (Q3 (n:=n) i.i (λF h9=>(h9.2).1) rfl rfl JC JO O)<|QA (Q5 (n:=n) ((i.i)*1) (λF h9=>(h9.2).1) O rfl JO (J6 (o:=l) O))<|QJK 3 I ?_
  refine QR I (λhc=>?_) λhc=>?_
  ·have hng:=QJG hc;refine wA 6 I ?_
   repeat first|refine Q6 ?_|refine Qy ?_
   exact QJO I I (congrArg (af .i64) (by unfold Y6;rw[if_neg (by rw[hln];exact λh=>h heq),if_pos (j6 hlt hng)])) w8
  have hng:=QJH hc;refine QJL 4 I<|QA (QH I Gw Jz)<|QA (Qf I Jz .here (.skip .h1))<|QH0 I<|QA (Q3 (n:=n) i.i (λF h9=>(h9.2).1) rfl rfl JC JO O)<|QA (Q5 (n:=n) ((i.i)*1) (λF h9=>(h9.2).1) O rfl JO (J6 (o:=l) O))<|QA (vr I I)<|QA (Qw I I O)<|wB 2 I<|Qk<|QJM 3 I<|QA (Qw I I O)<|wB 2 I ?_
  exact Qm (⟨i.i+1,hlt,by intro k hk;rw[XU hlt]at hk;rcases List.mem_append.1 hk with hk | hk;exact i.nn k hk;rw[List.mem_singleton.1 hk,<-Yr hlt];omega⟩) (by show l.length-(i.i+1)<l.length-i.i;omega) ⟨rfl,(congrArg (λz:Int=>some (af .i64 z)) (Ix hlt).symm),rfl,trivial⟩ QIM w9
 have hge:i.i=l.length:=wk<|QJH hc
 refine Qz ?_
 repeat first|refine QZ ?_|refine QQ wy ?_
 refine Qa<|QJM 4 I ?_
 rw[hge,aL];have hnn:=i.nn;rw[hge,aL]at hnn;have hte:=QAj (f:=f) (v:=v) (by rw[hln];exact heq) hnn;refine QJK 4 I ?_;refine QR I (λhc=>?_) λhc=>?_
 ·have hbg:=hc;refine wA 6 I ?_;exact QJO I I (congrArg (af .i64) (by rw[hte,if_pos hbg])) w8
 have hbg:=hc;refine QJL 4 I<|QA (QH I Rk JP)<|QA (Qf I JP .here .h1)<|QI I (λ_ _ f k=>vo f (hf)) λ_=>wQ I<|QY ?_
 exact QJO I I (congrArg (af .i64) (by rw[hte,hbg];rfl)) w8
section
variable{ps:List E6}{v:Int}{i:Nat}
def QIO(h:i<ps.length)(he:Y6 (el ps i).f (el ps i).k v≠0):GA (YG ps) v i=Y6 (el ps i).f (el ps i).k v:=by
 have e:Qu [Y6 (el ps i).f (el ps i).k v,if((el ps i).f==[48])=true then 6 else 0]=Y6 (el ps i).f (el ps i).k v:=by
  unfold Qu;rw[if_neg he]
 rw[step_eq h e,if_neg (λg=>he g.1)]
def QIN(h:i<ps.length)(he:Y6 (el ps i).f (el ps i).k v=0)(hz:((el ps i).f==[48])=true):GA (YG ps) v i=6:=by
 have e:Qu [Y6 (el ps i).f (el ps i).k v,if((el ps i).f==[48])=true then 6 else 0]=6:=by
  rw[he,if_pos hz];rfl
 rw[step_eq h e,if_neg (λg=>wk g.1)]
def QDn(h:i<ps.length)(he:Y6 (el ps i).f (el ps i).k v=0)(hz:((el ps i).f==[48])=false):GA (YG ps) v i=if 0<i/\before (el ps (i-1)).k (el ps i).k=false then 11 else 0:=by
 have e:Qu [Y6 (el ps i).f (el ps i).k v,if((el ps i).f==[48])=true then 6 else 0]=0:=by
  rw[he,hz];rfl
 rw[step_eq h e];have hb:(0<=Gd (el ps (i-1)).k (el ps i).k)↔before (el ps (i-1)).k (el ps i).k=false:=by
  rw[Br,decide_eq_false_iff_not];omega
 by_cases g:0<i/\before (el ps (i-1)).k (el ps i).k=false
 ·rw[if_pos g,if_pos ⟨rfl,g.1,hb.2 g.2⟩]
 rw[if_neg g,if_neg (λh=>g ⟨h.2.1,hb.1 h.2.2⟩)]
end
theorem I6{q:Option Addr}{cap:Nat}{ps:List E6}{v:Int}(hF:Fits F w)(hGl:JE F)(hR:Qx F q n 2 (ps.flatMap DM))(hP:VT F ps)(hln:ps.length=n)(hf:∀t∈ps,t.f.length<=9223372036854775807/\t.k.length<=9223372036854775807)(hl:ps.length<=9223372036854775807)(hv:0<=v/\v<=24):Qg prog 79 [.slice q n cap,.int .i64 v] w F (.int .i64 (Za (YG ps) v)):=by
 have hal:(YG ps).length=n:=by unfold YG;rw[List.length_map];exact hln
 refine QV.intro (G:=λF=>JE F/\Qx F q n 2 (ps.flatMap DM)/\VT F ps) func79 rfl wy rfl rfl hF (λF' hF'=>⟨hGl.le hF',hR.le hF',hP.le hF'⟩)<|QI7<|wQ rfl<|QG<|wR rfl<|QA (Qh rfl Kz)<|QA (QT rfl rfl rfl)<|QE<|QC ?_
 refine QR I (λhc=>?_) λhc=>?_
 ·have hbig:=hc;refine wA 6 I ?_;exact QJO I I (congrArg (af .i64) (by unfold Za;rw[hal,if_pos hbig])) w8
 have hbig:=QJH hc;refine QJL 9 I<|XK (ι:=jr (YG ps) v n) [(0,_),(1,_)] (λi=>[(5,.int .i64 ((i.i:Nat):Int))]) (λi=>n-i.i) (⟨0,aJ _,λj hj=>absurd hj (Nat.not_lt_zero _)⟩) wT wS λi=>?_
 simp only[ag,ah];have hi:=i.le;refine wA 5 I<|QA (Qh I Kz)<|QJK 3 I ?_
 refine QR I (λhc=>?_) λhc=>?_
 ·have hlt:i.i<n:=wk<|QJG hc
  have htm:el ps i.i∈ps:=Qv O;refine QJL 8 I<|QA (Q3 (n:=n) i.i (λF h9=>h9.2.1) rfl rfl Kz VA O)<|QA (JK (n:=n) (vs:=[tx (el ps i.i).f,.slice (el ps i.i).r.q (el ps i.i).r.n (el ps i.i).r.cap]) ((i.i)*2) (λF h9=>h9.2.1) O rfl VA I λj v hv=>JQ (f:=DM) (l:=ps) Wt O hv)<|QH0 I<|QI I (λ_ _ g h=>vN g (h.1) (f:=(el ps i.i).f) (l:=(el ps i.i).k) (h.2.2 _ htm) ((hf _ htm).1) ((hf _ htm).2) O) λ_=>QJK 10 I ?_
  refine QR I (λhc=>?_) λhc=>?_
  ·have h23:=bne_iff_ne.1 hc;refine wA 7 I ?_
   repeat first|refine Q6 ?_|refine Qy ?_
   exact QJO I I (congrArg (af .i64) (DP hal hbig i hlt (QIO O h23) h23)) w8
  have h23:=bne_eq_false_iff_eq.1 hc;refine QJL 7 I<|QA (Q3 (n:=n) i.i (λF h9=>h9.1.2.1) rfl rfl Kz VA O)<|QA (QH I Rk JP)<|QA (Q5 (n:=n) ((i.i)*2+0) (λF h9=>h9.1.2.1) O rfl JP (JQ (f:=DM) (l:=ps) Wt O rfl))<|QI I (λ_ _ f k=>QFN f ) λ_=>QE<|QC ?_
  refine QR I (λhc=>?_) λhc=>?_
  ·have h30:=hc;refine wA 6 I ?_
   repeat first|refine Q6 ?_|refine Qy ?_
   exact QJO I I (congrArg (af .i64) (DP hal hbig i hlt (QIN O h23 h30) wu)) w8
  have h30:=hc;refine QJL 3 I<|JH QIM mixed wm<|QK (QD I)<|QK (QT I I I)<|QK (QD I) ?_
  refine BV (t:=33) rfl (λhb33=>?_) λhb33=>?_
  ·have hi0:0<i.i:=wk<|QJG hb33
   have hz0:=(Pb (i.z (i.i-1) O)).1;rw[IK (show i.i-1<ps.length by omega)]at hz0;have htm0:el ps (i.i-1)∈ps:=Qv O;refine J1 I I<|QK (QD I)<|J1 I I<|QK (QD I)<|J1 I I<|QK (X3 I I O)<|J1 I I<|QK (Q3 (n:=n) ((i.i-1)) (λF h9=>h9.1.1.2.1) rfl wM Kz VA O)<|J1 I I<|QK (QH I Gw Jz)<|J1 I I<|QK (Q5 (n:=n) (((i.i-1))*2+1) (λF h9=>h9.1.1.2.1) O rfl Jz (JQ (f:=DM) (l:=ps) Wt O rfl))<|J1 I I<|QK (QD I)<|J1 I I<|QK (QD I)<|J1 I I<|QK (Q3 (n:=n) i.i (λF h9=>h9.1.1.2.1) rfl rfl Kz VA O)<|J1 I I<|QK (QH I Gw Jz)<|J1 I I<|QK (Q5 (n:=n) ((i.i)*2+1) (λF h9=>h9.1.1.2.1) O rfl Jz (JQ (f:=DM) (l:=ps) Wt O rfl))<|J1 I I<|QP I (λ_ _ f h=>QCq f (a:=(el ps (i.i-1)).k) (b:=(el ps i.i).k) (h.1.1.2.2 _ htm0) (h.1.1.2.2 _ htm) (W3 hz0 hv.2) (W3 h23 hv.2) (by have h1:=(Wi hz0).1;have h2:=(Wi h23).1;dsimp only at h1;omega)) λ_=>J1 I I ?_
   refine QK (XB I)<|QK (Qe I I I)<|Q7<|QC ?_
   refine QR I (λhc=>?_) λhc=>?_
   ·refine wA 6 I ?_
    repeat first|refine Q6 ?_|refine Qy ?_
    exact QJO I I (congrArg (af .i64) (DP hal hbig i hlt (by rw[QDn O h23 h30,if_pos ⟨hi0,by simpa using hc⟩]) wu)) w8
   refine QO<|Qk<|QJM 3 I<|QA (Qw I I O)<|wB 2 I ?_
   exact Qm (⟨i.i+1,hlt,λj hj=>by
    rcases aW j i.i with g | g
    ·exact i.z j g
    rw[show j=i.i from by omega];first | (rw[QDn O h23 h30,if_neg (λh=>wk<|QJH hb33)]) | (rw[QDn O h23 h30,if_neg (λh=>by rw[h.2]at hc;cases hc)])⟩) (by show n-(i.i+1)<n-i.i;omega) wU QIM λF h=>h.1.1.1
  refine Jw I I I<|Jw I I I<|Jw I I I<|Jw I I I<|Jw I I I<|Jw I I I<|Jw I I I<|Jw I I I<|Jw I I I<|Jw I I I<|Jw I I I<|Jw I I I<|Jw I I I<|QK (Qd I I I)<|Q7<|QC<|Yv I<|QO<|Qk<|QJM 3 I<|QA (Qw I I O)<|wB 2 I ?_
  exact Qm (⟨i.i+1,hlt,λj hj=>by
    rcases aW j i.i with g | g
    ·exact i.z j g
    rw[show j=i.i from by omega];first | (rw[QDn O h23 h30,if_neg (λh=>wk<|QJH hb33)]) | (rw[QDn O h23 h30,if_neg (λh=>by rw[h.2]at hc;cases hc)])⟩) (by show n-(i.i+1)<n-i.i;omega) wU QIM λF h=>h.1.1
 have hge:n<=i.i:=wk<|QJH hc
 refine Qz ?_
 repeat first|refine QZ ?_|refine QQ wy ?_
 refine Qa<|QJM 7 I ?_
 exact QJO I I (congrArg (af .i64) (Oj hal hbig i hge)) w8
def fpB(p:Pt)(v a b c:Int):Bool:=if(p.length:Int)>a\/Za p v≠0 then false else !(p.any λx=>decide (x.2.sum>b)||!(NA x.1 c))
def Xa9(x:Rat)(m:Nat):∀n:Nat,x^(m+n)=x^m*x^n
 |0=>by rw[Nat.add_zero,fp,ef]
 |n+1=>by rw[<-bJ,fq,fq,Xa9 x m n,eR]
def QEw(z:Int):QDI (Zi z)=aj z.natAbs:=by
 have h:=uq ((z:Int):Rat);rw[QFZ,show((z:Int):Rat).num=z from by simp]at h;unfold QDI;rw[h];unfold MG;by_cases h0:z<0
 ·rw[if_pos h0,if_pos wu,Kf h0];rfl
 rw[if_neg h0,XT O,if_neg (by split<;>decide)]
section
variable{w:World}{F:Gs}
variable{a b:List UInt8}
theorem Xdd(hF:Fits F w)(ha:Jk a=0)(hb:Jk b=0):Qg prog 14 [tx a,tx b] w F (tx (Js (Qo a*Qo b))):=by
 have h:=QDv (x:=Qo a) (y:=Qo b) hF (bh (Yf ha) wu) (bh (Yf hb) wu)
 rwa [<-(XH ha).1,<-(XH hb).1]at h
end
def Xd9(h:y.num≠0):JU (x/y)<=JU x+JU y:=by
 rw[bB];have:=Yt x y⁻¹;have:=Nn h;omega
section
variable{xs:List Rat}{rs bs:List (Rat×Rat)}{ks:List Int}
def Xbo{c:Rat}{r:Rat×Rat}(hc:Wx c r)(hk:∀k∈ks,0<=k)(hx:∀i,i<rs.length->Wx (el xs i) (el rs i)):∀m,m<=rs.length->Wx (Xcc c xs ks m) (WX r rs ks m)
 |0,_=>hc
 |m+1,hm=>by
  have ih:=Xbo hc hk hx m O;have h0:=QBv hk m;rw[Xcr,GF];by_cases g:Qn ks m>0
  ·rw[if_pos g];exact GG ih (RG (hx m O) h0)
  rw[if_neg g,show(Qn ks m).toNat=0 by omega,fp,ef];exact ih
theorem Xb2{l:List Tm}(hl:∀t∈l,t.2.length<=rs.length/\∀k∈t.2,0<=k)(hx:∀i,i<rs.length->Wx (el xs i) (el rs i)):Wx (Xd5 xs l) (XM rs l):=by
 have key:∀(l:List Tm) (a:Rat) (r:Rat×Rat),(∀t∈l,t.2.length<=rs.length/\∀k∈t.2,0<=k)->Wx a r->Wx (l.foldl (λa t=>a+Xcc t.1 xs t.2 t.2.length) a) (l.foldl (λa t=>Vv a (WX (t.1,t.1) rs t.2 t.2.length)) r):=by
  intro l
  induction l with
  |nil=>intro a r _ h;exact h
  |cons t l ih =>
   intro a r hl h;obtain⟨h1,h2⟩:=hl t List.mem_cons_self;have hv:=Xbo (c:=t.1) (r:=(t.1,t.1)) ⟨aR,aR⟩ h2 hx t.2.length h1;refine ih _ _ (λu hu=>hl u (List.mem_cons_of_mem _ hu)) ?_;unfold Wx Vv at *
   dsimp only at *
   grind
 exact key l 0 (0,0) hl ⟨aR,aR⟩
end
theorem QDx(hF:Fits F w)(hl:s.length<=9223372036854775807):Qg prog 77 [tx s] w F (.bool (cL s)):=by
 refine QV.intro (G:=λF=>True) func77 rfl wy rfl rfl hF w8<|QI7<|wQ rfl<|QG<|QI7<|wQ rfl<|QW<|XK (ι:=W9 s λc=>EH c.toNat) [(0,_)] (λi=>[(3,.int .i64 ((i.i:Nat):Int))]) (λi=>s.length-i.i) (W9.start _ _) wS wS λi=>?_
 simp only[ag,ah];have hle:=i.le;refine wA 5 I<|QA (Xj I Zk)<|QJK 3 I ?_
 refine QR I (λhc=>?_) λhc=>?_
 ·have hi:i.i<s.length:=wk<|QJG hc
  refine QJL 8 I<|QA (Hj (i:=i.i) rfl rfl Zk hi) ?_
  obtain⟨c,hce⟩:∃c,c=s[i.i].toNat:=⟨_,rfl⟩;rw[<-hce];refine QJK 3 I ?_;refine Zc [(0,_),(3,_)] [(48,.bool ((!EH c)))] wT ?_ ?_
  ·refine wA 4 I ?_;refine Ql (t:=16) rfl (λhb16=>?_) λhb16=>?_
   ·refine wB 6 I ?_;refine Ql (t:=20) rfl (λhb20=>?_) λhb20=>?_
    ·refine wB 3 I<|Jn I I<|Jn I I<|wB 6 I<|Jn I I<|Jn I I<|wB 12 I ?_
     refine wB 2 I<|QA (XB I)<|QE ?_
     exact JY ⟨rfl,rfl,(congrArg (λb=>some (ab b)) (by clear hce;rw[ae];simp_all [EH,Yn]<;>omega)),trivial⟩ QIM w9
    refine wB 6 I ?_;refine Ql (t:=23) rfl (λhb23=>?_) λhb23=>?_
    ·refine wB 8 I ?_;refine Ql (t:=28) rfl (λhb28=>?_) λhb28=>?_
     ·refine wB 3 I<|Jn I I<|Jn I I<|wB 14 I<|QA (XB I)<|QE ?_
      exact JY ⟨rfl,rfl,(congrArg (λb=>some (ab b)) (by clear hce;rw[ae];simp_all [EH,Yn]<;>omega)),trivial⟩ QIM w9
     refine wB 6 I ?_;refine Ql (t:=31) rfl (λhb31=>?_) λhb31=>?_
     ·refine wB 8 I ?_;refine Ql (t:=36) rfl (λhb36=>?_) λhb36=>?_
      ·refine wB 11 I<|QA (XB I)<|QE ?_
       exact JY ⟨rfl,rfl,(congrArg (λb=>some (ab b)) (by clear hce;rw[ae];simp_all [EH,Yn]<;>omega)),trivial⟩ QIM w9
      refine wB 6 I ?_;refine Ql (t:=40) rfl (λhb40=>?_) λhb40=>?_
      ·refine wB 7 I<|QA (XB I)<|QE ?_
       exact JY ⟨rfl,rfl,(congrArg (λb=>some (ab b)) (by clear hce;rw[ae];simp_all [EH,Yn]<;>omega)),trivial⟩ QIM w9
      refine wB 6 I ?_;refine Ql (t:=44) rfl (λhb44=>?_) λhb44=>?_
      ·refine wB 3 I<|QA (XB I)<|QE ?_
       exact JY ⟨rfl,rfl,(congrArg (λb=>some (ab b)) (by clear hce;rw[ae];simp_all [EH,Yn]<;>omega)),trivial⟩ QIM w9
      refine wB 5 I<|QA (XB I)<|QE ?_
      exact JY ⟨rfl,rfl,(congrArg (λb=>some (ab b)) (by clear hce;rw[ae];simp_all [EH,Yn]<;>omega)),trivial⟩ QIM w9
     refine wB 12 I ?_;refine Ql (t:=40) rfl (λhb40=>?_) λhb40=>?_
     ·refine wB 7 I<|QA (XB I)<|QE ?_
      exact JY ⟨rfl,rfl,(congrArg (λb=>some (ab b)) (by clear hce;rw[ae];simp_all [EH,Yn]<;>omega)),trivial⟩ QIM w9
     refine wB 6 I ?_;refine Ql (t:=44) rfl (λhb44=>?_) λhb44=>?_
     ·refine wB 3 I<|QA (XB I)<|QE ?_
      exact JY ⟨rfl,rfl,(congrArg (λb=>some (ab b)) (by clear hce;rw[ae];simp_all [EH,Yn]<;>omega)),trivial⟩ QIM w9
     refine wB 5 I<|QA (XB I)<|QE ?_
     exact JY ⟨rfl,rfl,(congrArg (λb=>some (ab b)) (by clear hce;rw[ae];simp_all [EH,Yn]<;>omega)),trivial⟩ QIM w9
    refine wB 12 I ?_;refine Ql (t:=31) rfl (λhb31=>?_) λhb31=>?_
    ·refine wB 8 I ?_;refine Ql (t:=36) rfl (λhb36=>?_) λhb36=>?_
     ·refine wB 11 I<|QA (XB I)<|QE ?_
      exact JY ⟨rfl,rfl,(congrArg (λb=>some (ab b)) (by clear hce;rw[ae];simp_all [EH,Yn]<;>omega)),trivial⟩ QIM w9
     refine wB 6 I ?_;refine Ql (t:=40) rfl (λhb40=>?_) λhb40=>?_
     ·refine wB 7 I<|QA (XB I)<|QE ?_
      exact JY ⟨rfl,rfl,(congrArg (λb=>some (ab b)) (by clear hce;rw[ae];simp_all [EH,Yn]<;>omega)),trivial⟩ QIM w9
     refine wB 6 I ?_;refine Ql (t:=44) rfl (λhb44=>?_) λhb44=>?_
     ·refine wB 3 I<|QA (XB I)<|QE ?_
      exact JY ⟨rfl,rfl,(congrArg (λb=>some (ab b)) (by clear hce;rw[ae];simp_all [EH,Yn]<;>omega)),trivial⟩ QIM w9
     refine wB 5 I<|QA (XB I)<|QE ?_
     exact JY ⟨rfl,rfl,(congrArg (λb=>some (ab b)) (by clear hce;rw[ae];simp_all [EH,Yn]<;>omega)),trivial⟩ QIM w9
    refine wB 12 I ?_;refine Ql (t:=40) rfl (λhb40=>?_) λhb40=>?_
    ·refine wB 7 I<|QA (XB I)<|QE ?_
     exact JY ⟨rfl,rfl,(congrArg (λb=>some (ab b)) (by clear hce;rw[ae];simp_all [EH,Yn]<;>omega)),trivial⟩ QIM w9
    refine wB 6 I ?_;refine Ql (t:=44) rfl (λhb44=>?_) λhb44=>?_
    ·refine wB 3 I<|QA (XB I)<|QE ?_
     exact JY ⟨rfl,rfl,(congrArg (λb=>some (ab b)) (by clear hce;rw[ae];simp_all [EH,Yn]<;>omega)),trivial⟩ QIM w9
    refine wB 5 I<|QA (XB I)<|QE ?_
    exact JY ⟨rfl,rfl,(congrArg (λb=>some (ab b)) (by clear hce;rw[ae];simp_all [EH,Yn]<;>omega)),trivial⟩ QIM w9
   refine wB 10 I ?_;refine Ql (t:=23) rfl (λhb23=>?_) λhb23=>?_
   ·refine wB 8 I ?_;refine Ql (t:=28) rfl (λhb28=>?_) λhb28=>?_
    ·refine wB 3 I<|Jn I I<|Jn I I<|wB 14 I<|QA (XB I)<|QE ?_
     exact JY ⟨rfl,rfl,(congrArg (λb=>some (ab b)) (by clear hce;rw[ae];simp_all [EH,Yn]<;>omega)),trivial⟩ QIM w9
    refine wB 6 I ?_;refine Ql (t:=31) rfl (λhb31=>?_) λhb31=>?_
    ·refine wB 8 I ?_;refine Ql (t:=36) rfl (λhb36=>?_) λhb36=>?_
     ·refine wB 11 I<|QA (XB I)<|QE ?_
      exact JY ⟨rfl,rfl,(congrArg (λb=>some (ab b)) (by clear hce;rw[ae];simp_all [EH,Yn]<;>omega)),trivial⟩ QIM w9
     refine wB 6 I ?_;refine Ql (t:=40) rfl (λhb40=>?_) λhb40=>?_
     ·refine wB 7 I<|QA (XB I)<|QE ?_
      exact JY ⟨rfl,rfl,(congrArg (λb=>some (ab b)) (by clear hce;rw[ae];simp_all [EH,Yn]<;>omega)),trivial⟩ QIM w9
     refine wB 6 I ?_;refine Ql (t:=44) rfl (λhb44=>?_) λhb44=>?_
     ·refine wB 3 I<|QA (XB I)<|QE ?_
      exact JY ⟨rfl,rfl,(congrArg (λb=>some (ab b)) (by clear hce;rw[ae];simp_all [EH,Yn]<;>omega)),trivial⟩ QIM w9
     refine wB 5 I<|QA (XB I)<|QE ?_
     exact JY ⟨rfl,rfl,(congrArg (λb=>some (ab b)) (by clear hce;rw[ae];simp_all [EH,Yn]<;>omega)),trivial⟩ QIM w9
    refine wB 12 I ?_;refine Ql (t:=40) rfl (λhb40=>?_) λhb40=>?_
    ·refine wB 7 I<|QA (XB I)<|QE ?_
     exact JY ⟨rfl,rfl,(congrArg (λb=>some (ab b)) (by clear hce;rw[ae];simp_all [EH,Yn]<;>omega)),trivial⟩ QIM w9
    refine wB 6 I ?_;refine Ql (t:=44) rfl (λhb44=>?_) λhb44=>?_
    ·refine wB 3 I<|QA (XB I)<|QE ?_
     exact JY ⟨rfl,rfl,(congrArg (λb=>some (ab b)) (by clear hce;rw[ae];simp_all [EH,Yn]<;>omega)),trivial⟩ QIM w9
    refine wB 5 I<|QA (XB I)<|QE ?_
    exact JY ⟨rfl,rfl,(congrArg (λb=>some (ab b)) (by clear hce;rw[ae];simp_all [EH,Yn]<;>omega)),trivial⟩ QIM w9
   refine wB 12 I ?_;refine Ql (t:=31) rfl (λhb31=>?_) λhb31=>?_
   ·refine wB 8 I ?_;refine Ql (t:=36) rfl (λhb36=>?_) λhb36=>?_
    ·refine wB 11 I<|QA (XB I)<|QE ?_
     exact JY ⟨rfl,rfl,(congrArg (λb=>some (ab b)) (by clear hce;rw[ae];simp_all [EH,Yn]<;>omega)),trivial⟩ QIM w9
    refine wB 6 I ?_;refine Ql (t:=40) rfl (λhb40=>?_) λhb40=>?_
    ·refine wB 7 I<|QA (XB I)<|QE ?_
     exact JY ⟨rfl,rfl,(congrArg (λb=>some (ab b)) (by clear hce;rw[ae];simp_all [EH,Yn]<;>omega)),trivial⟩ QIM w9
    refine wB 6 I ?_;refine Ql (t:=44) rfl (λhb44=>?_) λhb44=>?_
    ·refine wB 3 I<|QA (XB I)<|QE ?_
     exact JY ⟨rfl,rfl,(congrArg (λb=>some (ab b)) (by clear hce;rw[ae];simp_all [EH,Yn]<;>omega)),trivial⟩ QIM w9
    refine wB 5 I<|QA (XB I)<|QE ?_
    exact JY ⟨rfl,rfl,(congrArg (λb=>some (ab b)) (by clear hce;rw[ae];simp_all [EH,Yn]<;>omega)),trivial⟩ QIM w9
   refine wB 12 I ?_;refine Ql (t:=40) rfl (λhb40=>?_) λhb40=>?_
   ·refine wB 7 I<|QA (XB I)<|QE ?_
    exact JY ⟨rfl,rfl,(congrArg (λb=>some (ab b)) (by clear hce;rw[ae];simp_all [EH,Yn]<;>omega)),trivial⟩ QIM w9
   refine wB 6 I ?_;refine Ql (t:=44) rfl (λhb44=>?_) λhb44=>?_
   ·refine wB 3 I<|QA (XB I)<|QE ?_
    exact JY ⟨rfl,rfl,(congrArg (λb=>some (ab b)) (by clear hce;rw[ae];simp_all [EH,Yn]<;>omega)),trivial⟩ QIM w9
   refine wB 5 I<|QA (XB I)<|QE ?_
   exact JY ⟨rfl,rfl,(congrArg (λb=>some (ab b)) (by clear hce;rw[ae];simp_all [EH,Yn]<;>omega)),trivial⟩ QIM w9
  simp only[ag,ah];refine QR I (λhc=>?_) λhc=>?_
  ·have hbad:EH (el s i.i).toNat=false:=by rw[JW hi,<-hce];simpa using hc
   refine wA 6 I ?_
   repeat first|refine Q6 ?_|refine Qy ?_
   exact QJO I I (congrArg ab (by unfold cL;rw[i.hit hi hbad];rfl)) w8
  have hcg:=hc;refine QO<|Qk<|QJM 3 I<|QA (Qw I I O)<|wB 2 I ?_
  exact Qm (i.next hi (by rw[JW hi,<-hce];simpa using hcg)) (by show s.length-(i.i+1)<s.length-i.i;omega) wT QIM w9
 have hge:s.length<=i.i:=wk<|QJH hc
 refine Qz ?_
 repeat first|refine QZ ?_|refine QQ wy ?_
 refine Qa<|QC<|wR I<|QA (Xj I Zk)<|wB 2 I ?_
 refine Ql (t:=52) rfl (λhb52=>?_) λhb52=>?_
 ·refine wB 3 I<|QA (Xj I Zk)<|QJK 7 I ?_
  exact QJO I I (congrArg ab (by unfold cL;rw[i.stop hge];rw[ae];simp at *;simp_all<;>omega)) w8
 refine QJK 8 I ?_;exact QJO I I (congrArg ab (by unfold cL;rw[i.stop hge];rw[ae];simp at *;simp_all<;>omega)) w8
theorem jz{a:List UInt8}{d:Int}(hF:Fits F w)(hd:0<=d/\d<=1000):Qg prog 9 [tx a,.int .i64 d] w F (.bool (NA a d)):=by
 have hn:=vu a;refine QV.intro (G:=λF=>True) func9 rfl wy rfl rfl hF w8<|QI7<|wQ rfl<|wR rfl<|QA (Xj rfl Mu)<|QH0 rfl<|QA (M0 rfl rfl O)<|QA (Qw rfl rfl O)<|QA (QT rfl rfl rfl)<|QH0 rfl ?_
 refine Ql (t:=11) rfl (λhb11=>?_) λhb11=>?_
 ·have hl:a.length<=1000000:=by have h1:=QJG hb11;omega
  refine wB 3 I<|QI I (λ_ _ f k=>O2 f (hl)) λ_=>wB 4 I ?_
  refine Ql (t:=16) rfl (λhb16=>?_) λhb16=>?_
  ·refine wB 3 I<|QI I (λ_ _ f k=>QDu f O) λ_=>QM I I<|QI I (λ_ _ f k=>QD1 f ) λ_=>QM I I<|QA (Xj I Mu)<|wB 6 I ?_
   refine Ql (t:=24) rfl (λhb24=>?_) λhb24=>?_
   ·refine wB 3 I<|QI I (λ_ _ f k=>QDz f O) λ_=>QM I I<|QA (Xj I Mu)<|QJK 9 I ?_
    exact QJO I I ((congrArg ab (by have h1:=QJG hb11;simp[NA,h1];simp at hb16 hb24;simp[hb16,hb24]))) w8
   refine QJK 10 I ?_;exact QJO I I ((congrArg ab (by have h1:=QJG hb11;simp[NA,h1];simp at hb16 hb24;simp[hb16];intro g;omega))) w8
  refine QJK 18 I ?_;exact QJO I I ((congrArg ab (by have h1:=QJG hb11;simp at hb16;simp[NA,h1,hb16]))) w8
 refine QJK 23 I ?_;exact QJO I I ((congrArg ab (by simp[NA,hb11]))) w8
def jw(r:Rat):Qo (Js r)=r:=by
 unfold Qo Js;by_cases h:r.den=1
 ·rw[if_pos h,TX (Pe _)];dsimp only;rw[if_neg wu,Ks];have:=ff r;rw[h,Rat.mkRat_one]at this;exact this
 rw[if_neg h,Eh (Pe _)];dsimp only;rw[if_pos rfl,Ks,Xd];exact ff r
def QBw{l:List UInt8}(h:Jc l≠n):¬aj n=l:=λe=>h (by rw[<-e,Xd])
def gD{r:Rat}(h:Jt r=false):Jk (Js r)=0:=by
 unfold Jt RU at h;rw[ee]at h;have h1:=QJH h.1;have h2:=QJH h.2;have ln:¬600<(aj r.num.natAbs).length:=λe=>h1 ((CI _).1 e);have ld:¬600<(aj r.den).length:=λe=>h2 (by rw[Int.natAbs_natCast];exact(CI _).1 e);have hneg:(ar (Zi r.num) [45]&&aj r.num.natAbs==[48])=false:=by
  by_cases g:r.num<0
  ·have:¬aj r.num.natAbs=[48]:=QBw (by show 0≠_;omega);rw[beq_false_of_ne this,Bool.and_false]
  rw[XT O,Va (J0 _)];rfl
 unfold Jk Js;by_cases hd:r.den=1
 ·rw[if_pos hd,TX (Pe _)];dsimp only;unfold Hn I9;rw[Hf,LD,hneg,decide_eq_false ln];simp
 rw[if_neg hd,Eh (Pe _)];dsimp only;unfold Hn I9;have h0:¬aj r.den=[48]:=QBw (by show 0≠_;have:=r.den_nz;omega);have h9:¬aj r.den=[49]:=QBw (by show 1≠_;omega);have hg:bw r.num.natAbs r.den=1:=r.reduced;rw[Hf,LD,LD,hneg,decide_eq_false ln,decide_eq_false ld,Xd,Xd,hg,beq_false_of_ne h0,beq_false_of_ne h9];simp
theorem SI{r:Rat}(h:JU r<=k)(hk:k<=1800):Jt r=false:=by
 unfold Jt RU;have a:∀z:Int,sz z<=k->decide (lim<=z.natAbs)=false:=λz hz=>by
  have h1:=(XO z 1800).1 O;have h2:=j3;refine decide_eq_false λe=>?_;exact absurd (Nat.lt_trans (Nat.lt_of_le_of_lt e h1) h2) (fi _)
 rw[a _ (bh (Jx r) h),a _ (bh (Jo r) h)];rfl
section
variable{w:World}{F:Gs}
def Un{a b:Rat}(ha:Jt a=false)(hb:Jt b=false)(h:a<=b):XX (Js a) (Js b)=0:=by
 unfold XX;rw[gD ha,gD hb,if_pos (show Qu [0,0]=0 from rfl),jw,jw,if_neg];have:=(Hr a b).2 h;omega
end
def QBs(x:Int):Qu [x]=x:=by
 unfold Qu;split
 ·rename_i h;rw[h];rfl
 rfl
theorem Xca{y:X5}{r:Sr}{tb:List WW}(hF:Fits F w)(hGl:JE F)(hy:ZH F y)(ht:Ww y)(hx:IS F r tb)(hc:QB5 r tb):Qg prog 93 [y.v,r.v] w F (.int .i64 (Qu [y.e,Dz y.nm.n tb])):=by
 refine QV.intro (G:=λF=>JE F/\ZH F y/\IS F r tb) func93 rfl wy rfl rfl hF (λF' hF'=>⟨hGl.le hF',hy.le hF',hx.le hF'⟩)<|QI7<|Qs rfl (vs:=[_,_,_]) rfl λb2=>wQ rfl<|QG<|QI7<|QA (wI I J8 .here)<|QI rfl (λ_ _ f k=>Zt (y:=y) f k.1 k.2.1 ht) λ_=>wQ rfl<|wR rfl<|QA (QT rfl rfl rfl)<|QE<|QC ?_
 refine QR I (λhc2=>?_) λhc2=>?_
 ·have h9:y.e≠0:=bne_iff_ne.1 hc2;refine wA 7 I ?_;exact QJO I I (congrArg (af .i64) (by rw[Zl h9])) w8
 have h9:y.e=0:=bne_eq_false_iff_eq.1 hc2;refine QJL 4 I<|QA (wI I J8 .here)<|QH0 I<|QI I (λ_ _ f k=>ID (y:=y) f k.1.1 k.1.2.1 k.1.2.2 hc) λ_=>wQ I<|QY ?_
 exact QJO I I (congrArg (af .i64) (by rw[h9,Zm,QBs])) w8
theorem Xcn{z:Rat}(h:0<z):x<=y/z↔x*z<=y:=by
 have e:y/z*z=y:=by rw[bB,eR,e9 z (by grind),ef]
 constructor
 ·intro k;have:=aD k (aP h);rwa [e]at this
 intro k;refine Rat.not_lt.1 λg=>?_;have:=eK g h;rw[e]at this;exact Rat.not_lt.2 k this
theorem Xco{z:Rat}(h:0<z):y/z<=x↔y<=x*z:=by
 have e:y/z*z=y:=by rw[bB,eR,e9 z (by grind),ef]
 constructor
 ·intro k;have:=aD k (aP h);rwa [e]at this
 intro k;refine Rat.not_lt.1 λg=>?_;have:=eK g h;rw[e]at this;exact Rat.not_lt.2 k this
theorem Xe1{a x0 h l u:Rat}(ha:0<a)(hh:0<=h)(hl:l<=x0)(hu:x0+h*(a*(u*u))<=u)(hv:x0+h*(a*(x0*x0))<=u){s:Rat}(h0:0<=s)(hs:s<=h):
  0<1-a*x0*s/\l<=x0/(1-a*x0*s)/\x0/(1-a*x0*s)<=u:=by
 have sq:∀y:Rat,0<=y*y:=λy=>by
  rcases fu (a:=0) (b:=y)with g | g
  ·exact au g g
  have:=au (show 0<=-y by grind) (show 0<=-y by grind);grind
 have hau:0<=h*(a*(u*u)):=au hh (au (aP ha) (sq u));have hax:0<=h*(a*(x0*x0)):=au hh (au (aP ha) (sq x0));rcases fu (a:=0) (b:=x0)with g | g
 ·have hu0:0<=u:=by grind
  have q0:0<=a*x0*s:=au (au (aP ha) g) h0;by_cases e:x0=0
  ·subst e;refine⟨by grind,?_,?_⟩<;>rw[bB,fm]<;>assumption
  have gx:0<x0:=by grind
  have gu:0<u:=by grind
  have k1:h*a*u<1:=by
   refine Rat.not_le.1 λk=>?_;have:=aD k hu0
   grind
  have k2:a*x0*s<=h*a*u:=by
   have m1:a*x0*s<=a*x0*h:=bc hs (au (aP ha) g);have m2:a*h*x0<=a*h*u:=bc (by grind) (au (aP ha) hh)
   grind
  have kp:0<1-a*x0*s:=by grind
  refine⟨kp,?_,?_⟩
  ·refine bV hl ?_;rw[Xcn kp];have:=au g q0
   grind
  rw[Xco kp];have m0:0<=a*s*u:=au (au (aP ha) h0) hu0;have m1:x0*(1+a*s*u)<=(u-h*(a*(u*u)))*(1+a*s*u):=aD (by grind) (by grind);have m2:a*s*u<=a*h*u:=aD (bc hs (aP ha)) hu0;have m3:0<=u*(1-h*a*u):=au hu0 (by grind);have m4:u*(1-h*a*u)*(a*s*u)<=u*(1-h*a*u)*(a*h*u):=bc m2 m3;have m5:0<=u*((h*a*u)*(h*a*u)):=au hu0 (sq _)
  grind
 have q0:0<=a*(-x0)*s:=au (au (aP ha) (by grind)) h0;have kp:0<1-a*x0*s:=by grind
 refine⟨kp,?_,?_⟩
 ·refine bV hl ?_;rw[Xcn kp];have:=au (show 0<=-x0 by grind) q0
  grind
 refine bV ?_ hv;rw[Xco kp];have m1:s*(a*(x0*x0))<=h*(a*(x0*x0)):=aD hs (au (aP ha) (sq x0));have m2:(x0+s*(a*(x0*x0)))*(1-a*x0*s)<=(x0+h*(a*(x0*x0)))*(1-a*x0*s):=aD (by grind) (aP kp);have m3:0<=(-x0)*((a*x0*s)*(a*x0*s)):=au (by grind) (sq _)
 grind
theorem Xe4{a x0 h:Rat}{W:J3}(hW:W.1<=W.2)(hh:0<=h)(H:∀y s,Wx y W->0<=s->s<=h->Wx (x0+s*(a*(y*y))) W){s:Rat}(h0:0<=s)(hs:s<=h):
  0<1-a*x0*s/\Wx (x0/(1-a*x0*s)) W:=by
 have e1:Wx W.2 W:=⟨hW,aR⟩;have e0:Wx W.1 W:=⟨aR,hW⟩;have x0W:Wx x0 W:=by have:=H W.2 0 e1 aR hh;rwa [fm,Rat.add_zero]at this
 by_cases ha:0<a
 ·obtain⟨k1,k2,k3⟩:=Xe1 ha hh x0W.1 (H W.2 h e1 hh aR).2 (H x0 h x0W hh aR).2 h0 hs;exact⟨k1,k2,k3⟩
 by_cases e:a=0
 ·subst e;refine⟨by grind,?_⟩;rw[show(1:Rat)-0*x0*s=1 by grind,bB,show((1:Rat))⁻¹=1 by decide +kernel,ef];exact x0W
 have c1:=(H W.1 h e0 hh aR).1;have c2:=(H x0 h x0W hh aR).1;obtain⟨k1,k2,k3⟩:=Xe1 (a:=-a) (x0:=-x0) (h:=h) (l:=-W.2) (u:=-W.1) (by grind) hh (by have:=x0W.2;grind) (by grind) (by grind) h0 hs;have e : -a * -x0*s=a*x0*s:=by grind
 rw[e]at k1 k2 k3;have e2 : -x0/(1-a*x0*s) = -(x0/(1-a*x0*s)):=by rw[bB,bB,Rat.neg_mul]
 rw[e2]at k2 k3;exact⟨k1,by grind,by grind⟩
theorem Xc9(a:Rat)(u y:Rat):Xd5 [u,y] [(a,[0,2])]=a*(y*y):=by
 simp[Xd5,Xcc,el,Qn,fI,List.range.loop]
 grind
theorem Xa8{a b:J3}(hx:Wx x a)(hy:Wx y b):Wx (x+y) (Vv a b):=by
 obtain⟨h1,h2⟩:=hx;obtain⟨k1,k2⟩:=hy;constructor<;>(unfold Vv;grind)
def Xa0(a:Rat):List (List Tm):=[[(a,[0,2])]]
theorem Xbv{a fr t2 x0:Rat}{X W:J3}(hx:Wx x0 X)(hW:W.1<=W.2)(ht:fr<=t2)(hg:U7 (Z4 (Xa0 a) fr t2 [X] [W]) [W]=true){s:Rat}(h0:0<=s)(hs:s<=t2-fr):
  0<1-a*x0*s/\Wx (x0/(1-a*x0*s)) W:=by
 refine Xe4 hW (h:=t2-fr) (by grind) (λy s hy h0 hs=>?_) h0 hs;rw[N0]at hg;have hg:=hg 0 (by simp[Z4]);have e:el (Z4 (Xa0 a) fr t2 [X] [W]) 0=Vv X (Jg (0,t2-fr) (XM [(fr,t2),W] [(a,[0,2])])):=rfl;rw[e]at hg;have hm:=Xb2 (rs:=[(fr,t2),W]) (xs:=[fr,y]) (l:=[(a,[0,2])]) wz (λi hi=>by
  have:i=0\/i=1:=by simp at hi;omega
  rcases this with rfl | rfl
  ·exact⟨aR,ht⟩
  exact hy)
 rw[Xc9]at hm;have:=Xa8 hx (GG (show Wx s (0,t2-fr)from⟨h0,hs⟩) hm);exact⟨bV hg.1 this.1,bV this.2 hg.2⟩
end Go.Proofs.YtbpmnjieoncbcaaGreatDoor
