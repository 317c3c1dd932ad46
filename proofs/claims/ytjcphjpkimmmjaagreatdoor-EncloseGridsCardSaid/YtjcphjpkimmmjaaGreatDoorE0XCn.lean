/- Steps of the proof of the theorem in the last file. -/
import Derived.Test.YtjcphjpkimmmjaaGreatDoorQ0
import Derived.Test.YtjcphjpkimmmjaaGreatDoorProg
import Derived.KernelRfl
import Derived.Laws.IdiomArrays
set_option linter.all false
set_option maxHeartbeats 4000000
open Go.Lib renaming trimPrefix → aa,hasPrefix → ar,decDigits → aD
open List renaming cons_append → ab,nil_append → ae,eq_nil_of_length_eq_zero → ai,length_set → aj,length_take → ao,take_of_length_le → aq,getElem?_toArray → az,take_length → aA,length_drop → aG,drop_eq_getElem_cons → aI,length_append → aJ,drop_eq_nil_of_le → aL,length_cons → aM,replicate → aO,drop_zero → aT,takeWhile_cons_of_pos → ba,drop_drop → bc,perm_append_comm → bm,length_singleton → bp,getElem_of_mem → bD,drop_set_of_lt → bF,map_append → bL,length_nil → bM,length_map → bN,isPrefixOf → bO,length → bV
open Go.Value renaming bool → af,int → ah,okWide → bT
open Rat renaming divInt → ag,neg_num → bB,div_def → bC,neg_divInt_neg → bJ,neg_den → bZ
open Nat renaming mul_lt_mul_of_lt_of_lt → ak,zero_le → ax,le_refl → ay,eq_zero_or_pos → aC,le_trans → aH,zero_add → aN,gcd → aQ,lt_or_ge → bj,pow_le_pow_left → bH,div_le_self → bQ,lt_irrefl → bU,pow_mul → ea
open Bool renaming eq_iff_iff → au,or_eq_false_iff → aF,not_eq_false' → bI
open And renaming intro → av
open Int renaming toNat_natCast → aw,natAbs_mul → aB,gcd → aE,mul_ne_zero → aK,sub_add_cancel → aP,ediv_le_self → aR,ediv_nonneg → aS,one_mul → aU,toNat_of_nonneg → aV,emod_lt_of_pos → aW,sub_mul → aX,mul_le_mul_of_nonneg_left → aY,emod_nonneg → aZ,mul_nonneg → bf,mul_ediv_cancel_left → bh,mul_comm → bt,lt_or_le → bw,emod_add_mul_ediv → bz,ediv_lt_of_lt_mul → bA,natAbs_natCast → bK,gcd_dvd_left → bP,natAbs_tdiv → bR,mul_le_mul → bS,mul_one → ee,mul_neg → ef,le_refl → ei
open Go.Result renaming andThen_ok → bG
open Go.Sem renaming run_pure → bW,run_bind → bX
open Go.DataW renaming Trod → bY
open List.Sublist renaming refl → eb
namespace Go.Proofs.YtjcphjpkimmmjaaGreatDoor
variable{x:Rat}{a b l o:List Int}{n zx:Int}{w:World}{F:Gs}{s:List UInt8}{i k m:Nat}{ra rb:Sr}{T:TypeId}
open Go.RowKit
section
variable[Dr][df:Df]
section
variable{P:Program}{Q:Exit->Act->World->Prop}{N:Nat}{m:Sl}{E:Env}
theorem qp{c:Operand}{x y:Code}(hc:ev m c=some (.bool true))(h:J P x Q N m E):J P (.cond c x y) Q N m E:=QR hc (λ_=>h) (λh=>by cases h)
variable{ops:Array Oper}{l:List Oper}{E0:Env}
variable{d:Nat}{o:Op}{ty:TypeId}{pos:String}{aft:Array Edge}{v:Value}
end
end
section
variable[Dr][df:Df]
section
variable{P:Program}{Q:Exit->Act->World->Prop}{N:Nat}{m:Sl}{E E0:Env}{ops:Array Oper}{l:List Oper}{w0:World}{F0:Gs}{bs:List (Nat×Obj)}{G:Gs->Prop}{ty:TypeId}{v:Value}{S:World->Prop}
theorem Uj(v:Value):∀n,Xb [v] n=aO n v
 |0=>rfl
 |n+1=>by rw[Xb,Uj v n];rfl
end
end
theorem S2:YW Tryz.prog 4=some (false,1):=y0
theorem QCa:Bu Tryz.prog 22=true:=y0
theorem Ey:KC Tryz.prog 147 0=some (0,4):=y0
theorem VD:KC Tryz.prog 147 1=some (1,106):=y0
section
open Go.RowKit Go.ChangeShapes Go.WideShapes Ig
section
variable{H:Type}{enc:TypeId×Value->H}{w:World}{b:Nat}{v:Value}{d:DataW H}{p:List MemPlace}
set_option maxRecDepth 100000 in
theorem QEE{t:TypeId}(ht:Tryz.prog.underlying t=some (.int .i64))(hv:bT Tryz.prog w .any b t v)(h:bY enc Tryz.prog w 0 (λ_=>true) true t v d p):∃n:Int,v = .int .i64 n/\-9223372036854775808<=n/\n<=9223372036854775807:=by
 obtain⟨n,rfl,_,_,hw⟩:=open_int ht hv h
 refine⟨n,rfl,?_⟩
 simpa[Lit.wf,IntKind.min,IntKind.max,IntKind.signed,IntKind.bits]using hw
end
end
section
open Go.RowKit Go.ChangeShapes Go.WideShapes Ig
section
variable{H:Type}{enc:TypeId×Value->H}{w:World}
theorem QHB{a:Addr}{n:Nat}{cs:List Value}(h:w.cells? 0 a n=some cs):cs.length=n/\∀i,i<n->w.cell? (a.add i)=cs[i]?:=by
 unfold World.cells? at h
 rw[if_pos (ax _)]at h
 exact⟨by simpa using mapM_some_length h,λi hi=>by simpa using mapM_some_get h i i (by simp[hi])⟩
end
end
open Go.RowKit Ig
theorem dO(hF:Fits F w)(hl:s.length<=9223372036854775807):Qe Tryz.prog 188 [tx s] w F (.bool (X6 s)):=by
 refine QS.intro (G:=λ_=>True) Tryz.func188 rfl wc rfl rfl hF wh<|wI<|wH rfl<|QG<|wI<|wH rfl<|QU<|Zy (ι:=Sy s.length (λi=>(s.take i).all L1=true)) (λi=>[(0,tx s),(3,.int .i64 i.i)]) (λ_=>[]) (λ_ _=>True) (λi=>s.length - i.i) ⟨0,ax _,rfl⟩ wP wK wh (λi=>?_)
 have hle:=i.le
 refine QG<|wJ I<|wE I<|QA (X7 I ZQ)<|QA (QZ I I I)<|QE<|QC ?_
 refine QR I (λhc=>?_) (λhc=>?_)
 ·
  have hi:i.i<s.length:=by simp at hc;omega
  clear hc
  refine QQ<|QC<|QG<|QU<|wJ I<|wE I<|QA (Gc I I ZQ (hi))<|QA (QZ I I I)<|wE I ?_
  refine Q3 (t:=14) rfl (λhb14=>?_) (λhb14=>?_)
  ·
   refine Qc I I I<|Qc I I I<|Qc I I I<|Qc I I I<|QA (Qp I I I)<|wG<|qp I<|wI<|wH I<|QY ?_
   repeat (first | refine JA ?_ | refine Q5 ?_)
   exact QV () I (wB I) (congrArg af (by rw[AG hi (by have h1:=wM hb14;cases hd:L1 s[i.i]with | false=>rfl | true=>(have:=Kn.1 hd;omega))])) wh
  ·
   refine QM I I<|wE I<|QM I I<|wE I<|QM I I<|QA (Gc I I ZQ (hi))<|QM I I<|QA (QZ I I I)<|QA (Qj I I I)<|QE<|QC ?_
   refine QR I (λhc=>?_) (λhc=>?_)
   ·
    refine wI<|wH I<|QY ?_
    repeat (first | refine JA ?_ | refine Q5 ?_)
    exact QV () I (wB I) (congrArg af (by rw[AG hi (by have h1:=wM hc;cases hd:L1 s[i.i]with | false=>rfl | true=>(have:=Kn.1 hd;omega))])) wh
   ·
    refine QQ<|Qk<|QC<|QB<|wE I<|QA (Qu I I O)<|wF I<|QE ?_
    exact Ql (⟨i.i+1,O,NH hi i.h (Kn.2 (by have h1:=wN hb14;have h2:=wN hc;constructor<;>omega))⟩:Sy s.length (λi=>(s.take i).all L1=true)) (by show s.length - (i.i+1)<s.length - i.i;omega) wP wK wh
 ·
  refine Qz ?_
  repeat (first | refine QW ?_ | refine QP wc ?_)
  refine QX<|QC<|wI<|wH I<|QY ?_
  exact QV () I (wB I) (congrArg af (by have e:=i.h;rw[aq (by simp at hc;omega)]at e;exact e)) wh
theorem QEm(h1:(1:Int)<(s.length:Int))(h:s[0]' O=48):Xx s=false:=by
 cases s with
 |nil=>simp at h1
 |cons c r =>
  have hc:c=48:=h
  subst hc
  have hr:r≠[]:=by intro e;subst e;simp at h1
  simp[Xx,hr]
theorem QDK(h1:(1:Int)<(s.length:Int))(h:¬s[0]' O=48):Xx s=X6 s:=by
 cases s with
 |nil=>simp at h1
 |cons c r =>
  have hc:¬c=48:=h
  simp[Xx,hc]
theorem QEl(h0:0<s.length)(h1:s.length<=1):Xx s=X6 s:=by
 match s,h0,h1 with
 |[c],_,_ =>
  by_cases hc:c=48
  ·subst hc;rfl
  ·simp[Xx,hc]
theorem QCc(hF:Fits F w)(hl:s.length<=9223372036854775807):Qe Tryz.prog 96 [tx s] w F (.bool (Xx s)):=by
 refine QS.intro (G:=λ_=>True) Tryz.func96 rfl wc rfl rfl hF wh<|wI<|wH rfl<|QG<|wJ rfl<|QA (X7 rfl ZQ)<|QA (QZ rfl rfl rfl)<|wE rfl ?_
 refine Q3 (t:=6) rfl (λhb6=>?_) (λhb6=>?_)
 ·
  refine Qc I I I<|Qc I I I<|Qc I I I<|Qc I I I<|J2 I I<|J2 I I<|J2 I I<|Qc I I I<|QA (Qp I I I)<|wG<|qp I<|wI<|wH I<|QY ?_
  exact QV () I (wB I) (congrArg af (by have h0:s=[]:=(by simpa using hb6);subst h0;rfl)) wh
 ·
  refine QM I I<|wE I<|QM I I<|QA (X7 I ZQ)<|QM I I<|QA (QZ I I I)<|QM I I<|wE I ?_
  refine Q3 (t:=10) rfl (λhb10=>?_) (λhb10=>?_)
  ·
   refine QM I I<|wE I<|QM I I<|QA (Gc (i:=0) rfl rfl ZQ (by have:=wM hb10;omega))<|QM I I<|QA (QZ I I I)<|QM I I<|QA (Qp I I I)<|QA (Qj I I I)<|QE<|QC ?_
   refine QR I (λhc=>?_) (λhc=>?_)
   ·
    refine wI<|wH I<|QY ?_
    exact QV () I (wB I) (congrArg af (QEm (wM hb10) (by have h:=hc;rw[RO (d:=48) (z:=48) rfl]at h;simpa using h))) wh
   ·
    refine QQ<|QC<|wJ I<|QI I (λw F hF _=>dO hF hl) (λ_=>wH I<|QY ?_)
    exact QV () I (wB I) (congrArg af (QDK (wM hb10) (by have h:=hc;rw[RO (d:=48) (z:=48) rfl]at h;simpa using h))) wh
  ·
   refine Qc I I I<|Qc I I I<|Qc I I I<|QM I I<|QA (Qj I I I)<|QA (Qj I I I)<|wG<|Ko I<|QQ<|QC<|wJ I<|QI I (λw F hF _=>dO hF hl) (λ_=>wH I<|QY ?_)
   exact QV () I (wB I) (congrArg af (QEl (List.length_pos_iff.2 (by simpa using hb6)) (by have h:=wN hb10;omega))) wh
def QGT(s:List UInt8):List UInt8:=if FI s<0 then s.drop 1 else if FI s=0 then s else 45::s
theorem Ub(p:UInt8->Bool)(s:List UInt8):ahead p s<=s.length:=(List.takeWhile_sublist _).length_le
theorem QFV(hF:Fits F w):Qe Tryz.prog 19 [tx s] w F (.int .i64 (FI s)):=by
 refine QS.intro (G:=λ_=>True) Tryz.func19 rfl wc rfl rfl hF wh<|wI<|wH rfl<|QG<|wJ rfl<|QA (Vr rfl rfl)<|QE<|QC ?_
 refine QR I (λhc4=>?_) (λhc4=>?_)
 ·
  refine wI<|wH I<|QY ?_
  exact QV () I (wB I) (congrArg (ah .i64) (by unfold FI;rw[if_pos (by simpa using hc4)])) wh
 ·
  refine QQ<|QC<|QG<|wJ I<|QA (X7 I QCa)<|QA (QZ I I I)<|wE I ?_
  refine Q3 (t:=8) rfl (λhb8=>?_) (λhb8=>?_)
  ·
   refine QM I I<|wE I<|QM I I<|QA (Gc (i:=0) rfl rfl QCa (by have:=wM hb8;omega))<|QM I I<|QA (QZ I I I)<|QA (Qp I I I)<|QE<|QC ?_
   refine QR I (λhc=>?_) (λhc=>?_)
   ·
    refine wI<|wH I<|QY ?_
    exact QV () I (wB I) (congrArg (ah .i64) (by unfold FI;rw[if_neg (by simpa using hc4),if_pos];rw[BP (by have:=wM hb8;omega),<-RO (z:=45) rfl];exact hc)) wh
   ·
    refine QQ<|QC<|wI<|wH I<|QY ?_
    exact QV () I (wB I) (congrArg (ah .i64) (by unfold FI;rw[if_neg (by simpa using hc4),if_neg];rw[BP (by have:=wM hb8;omega),<-RO (z:=45) rfl,hc];decide)) wh
  ·
   refine Qc I I I<|Qc I I I<|Qc I I I<|QA (Qj I I I)<|wG<|Ko I<|QQ<|QC<|wI<|wH I<|QY ?_
   exact QV () I (wB I) (congrArg (ah .i64) (by have h0:s=[]:=(by have:=hb8;simp at this;exact this);subst h0;rfl)) wh
theorem QDl{d:Nat}(h:d<10):(([48,49,50,51,52,53,54,55,56,57]:List UInt8).take (d+1)).drop d=[UInt8.ofNat (48+d)]:=by
 match d,h with
 |0,_=>rfl
 |1,_=>rfl
 |2,_=>rfl
 |3,_=>rfl
 |4,_=>rfl
 |5,_=>rfl
 |6,_=>rfl
 |7,_=>rfl
 |8,_=>rfl
 |9,_=>rfl
theorem QBK{n least:Nat}(hF:Fits F w)(hn:n<=9223372036854775807)(hl:least<=1000):Qe Tryz.prog 104 [.int .i64 (n:Int),.int .i64 (least:Int)] w F (tx (S3 n least)):=by
 refine QS.intro (G:=λ_=>True) Tryz.func104 rfl wc rfl rfl hF wh<|wI<|wH rfl<|wI<|wH rfl<|QG<|QU<|Zy (ι:=dL n least) (λi=>[(0,.int .i64 (i.m:Int)),(1,.int .i64 (least:Int)),(5,tx i.t)]) (λ_=>[]) (λ_ _=>True) (λi=>i.m+(least - i.t.length)) ⟨n,[],ay _,by unfold S3;simp,by have:=vC hn;simp;omega⟩ wQ wK wh (λi=>?_)
 have hle:=i.le
 have htl:=i.tl
 refine QG<|wJ I<|QA (QZ I I I)<|wE I ?_
 refine Q3 (t:=8) rfl (λhb8=>?_) (λhb8=>?_)
 ·
  refine Qc I I I<|Qc I I I<|Qc I I I<|Qc I I I<|QA (Qp I I I)<|wG<|qp I<|QQ<|QC<|QU<|wJ I<|QA (BO I I O O)<|wE I<|QA (BO I I O O)<|QA (Qu I I O)<|QA (Rn (i.m%10) (i.m%10+1) rfl rfl rfl ZQ (.inr rfl) (.inr rfl) O (by show i.m%10+1<=10;omega)) ?_
  rw[QDl (Nat.mod_lt _ wa)]
  refine wE I<|QA (KF I I wg)<|wH I<|QB<|wE I<|QA (Ro I I O O O)<|wF I<|QE<|Qk ?_
  exact Ql (dL.next i (Or.inl (by have:=wM hb8;omega):0<i.m\/i.t.length<least)) (by show i.m / 10+(least - (i.t.length+1))<i.m+(least - i.t.length);rcases(Or.inl (by have:=wM hb8;omega):0<i.m\/i.t.length<least)with g | g<;>omega) wQ wK wh
 ·
  refine QM I I<|wE I<|QM I I<|QA (X7 I ZQ)<|QM I I<|wE I<|QM I I<|QA (QZ I I I)<|QA (Qj I I I)<|QE<|QC ?_
  refine QR I (λhc=>?_) (λhc=>?_)
  ·
   refine QQ<|QC<|QU<|wJ I<|QA (BO I I O O)<|wE I<|QA (BO I I O O)<|QA (Qu I I O)<|QA (Rn (i.m%10) (i.m%10+1) rfl rfl rfl ZQ (.inr rfl) (.inr rfl) O (by show i.m%10+1<=10;omega)) ?_
   rw[QDl (Nat.mod_lt _ wa)]
   refine wE I<|QA (KF I I wg)<|wH I<|QB<|wE I<|QA (Ro I I O O O)<|wF I<|QE<|Qk ?_
   exact Ql (dL.next i (Or.inr (by have:=wM hc;omega):0<i.m\/i.t.length<least)) (by show i.m / 10+(least - (i.t.length+1))<i.m+(least - i.t.length);rcases(Or.inr (by have:=wM hc;omega):0<i.m\/i.t.length<least)with g | g<;>omega) wQ wK wh
  ·
   refine Qz ?_
   repeat (first | refine QW ?_ | refine QP wc ?_)
   refine QX<|QC<|wJ I<|wH I<|QY ?_
   exact QV () I (wB I) (congrArg tx (by have h1:=wN hb8;have h2:=wN hc;have h0:i.m=0:=O;rw[<-i.h,h0];simp[hd,Wu,show least - i.t.length=0 by omega,Lib.repeatL])) wh
theorem zE(h:DG B9 l)(i:Nat):0<=l.getD i 0/\l.getD i 0<1000000000:=h.getD wa i
theorem dR(h:l.length<=i):l.getD i 0=0:=by simp[h]
theorem pE(hF:Fits F w)(hA:J7 F ra a)(hB:J7 F rb b)(da:DG B9 a)(db:DG B9 b)(la:a.length<=100000000)(lb:b.length<=100000000):
  Ly Tryz.prog 239 [ra.v,rb.v] w F (λl=>dv B9 l=dv B9 a+dv B9 b/\l.length<=max a.length b.length+1):=by
 have na:=hA.2.1
 have nb:=hB.2.1
 have h9:B9=1000000000:=rfl
 refine QS.intro (G:=λF=>J7 F ra a/\J7 F rb b) Tryz.func239 rfl wc rfl rfl hF (λF' hF'=>⟨hA.le hF',hB.le hF'⟩)<|wI<|wH rfl<|wI<|wH rfl<|wI<|wH rfl<|QG<|wI<|wH rfl<|QU ?_
 refine Zy (ι:=QHA a b) (λi=>[(0,ra.v),(1,rb.v),(5,i.v),(6,.int .i64 i.carry),(7,.int .i64 (i.i:Int))]) (λi=>i.ob) (λ_ F=>J7 F ra a/\J7 F rb b) (λi=>max a.length b.length+1 - i.i)
  ⟨0,[],0,.slice none 0 0,[],ax _,rfl,DG.nil _,wa,wa,λ_=>rfl,we,.nil⟩ wS wu wi (λi=>?_)
 have hle:=i.le
 have hlen:=i.len
 have hc0:=i.c0
 have hc1:=i.c1
 refine QG ?_
 refine MJ 22 (.bool (decide ((i.i:Int)<ra.n)||decide ((i.i:Int)<rb.n)||decide (i.carry>0))) ?_ ?_
 ·
  refine QB<|wE I<|wE I<|QA (Qh I Q2)<|QA (QZ I I I)<|wE I ?_
  refine Q3 (t:=13) rfl (λhb13=>?_) (λhb13=>?_)
  ·
   refine Qc I I I<|Qc I I I<|Qc I I I<|Qc I I I<|QA (Qp I I I)<|wE I<|Qc I I I<|Qc I I I<|QA (Qp I I I)<|QE ?_
   exact Zb (exd 15 rfl rfl) (congrArg (λb=>some (af b)) (by rw[au];simp_all;try omega)) wK wi
  ·
   refine QM I I<|wE I<|QM I I<|wE I<|QM I I<|QA (Qh I Q2)<|QM I I<|QA (QZ I I I)<|QA (Qj I I I)<|wE I ?_
   refine Q3 (t:=19) rfl (λhb19=>?_) (λhb19=>?_)
   ·
    refine Qc I I I<|Qc I I I<|QA (Qp I I I)<|QE ?_
    exact Zb (exd 16 rfl rfl) (congrArg (λb=>some (af b)) (by rw[au];simp_all;try omega)) wK wi
   ·
    refine QM I I<|wE I<|QM I I<|QA (QZ I I I)<|QA (Qj I I I)<|QE ?_
    exact Zb (exd 16 rfl rfl) (congrArg (λb=>some (af b)) (by rw[au];simp_all;try omega)) wK wi
 ·
  refine QR I (λhc=>?_) (λhc=>?_)
  ·
   have hi:i.i<=max a.length b.length:=by
    rcases bj (max a.length b.length) i.i with g | g
    ·have:=i.cz g
     simp at hc;omega
    ·exact g
   have b1:=zE da i.i
   have b2:=zE db i.i
   refine QQ<|QC<|QG<|QU<|wJ I<|wE I<|QI I (λw F hF h9=>Cy (r:=ra) (l:=a) hF h9.1 O) (λ_=>wE I<|wE I<|QI I (λw F hF h9=>Cy (r:=rb) (l:=b) hF h9.1.2 O) (λ_=>QA (Qu I I O)<|wE I<|QA (Qu I I O)<|wH I<|wJ I<|wE I<|QA (BO I I O O)<|Qa I (Qw Q2) JR N3 I I (λb37=>?_)))
   refine Yu (bs1:=[]) (ob:=i.ob) (k:=1) (sz:=1) (news:=[.int .i64 ((a.getD i.i 0+b.getD i.i 0+i.carry)%1000000000)]) I I Q2 JR N3 I Av i.hr (Src.row (off:=0) wk (λj v hv=>by rw[aN];show([ah .i64 ((a.getD i.i 0+b.getD i.i 0+i.carry)%1000000000)].toArray)[j]?=some v;rw[az];exact hv) rfl) O O (λu hu=>by rw[List.mem_singleton.1 hu];rfl) (λv' ob' hr'=>?_)
   refine wH I<|QB<|wE I<|QA (Ro I I O O O)<|wF I<|QE<|Qk<|QC<|QB<|wE I<|QA (Qu I I O)<|wF I<|QE ?_
   exact Ql (⟨i.i+1,i.out++[(a.getD i.i 0+b.getD i.i 0+i.carry)%B9],(a.getD i.i 0+b.getD i.i 0+i.carry) / B9,v',ob',O,by simp[hlen],i.dg.append (DG.cons (by rw[h9];omega) (by rw[h9];omega) (DG.nil _)),by rw[h9];omega,by rw[h9];omega,λg=>by rw[dR (l:=a) O,dR (l:=b) O,h9];omega,QFy hlen i.h I,by simpa[JY,h9]using hr'⟩:QHA a b) (by show max a.length b.length+1 - (i.i+1)<max a.length b.length+1 - i.i;omega) wS wK (λF h=>h.1.1.1)
  ·
   refine Qz ?_
   repeat (first | refine QW ?_ | refine QP wc ?_)
   refine QX<|QC<|wJ I<|wH I<|QY ?_
   obtain⟨r,hv,hrn,hrc,hfix⟩:=Qx.fix (w0:=w) (F0:=F) (bs1:=[]) (G:=λF=>J7 F ra a/\J7 F rb b) i.hr
   refine QCs hfix ?_
   have hex:max a.length b.length<=i.i/\i.carry=0:=by simp at hc;omega
   exact QV ((r,i.out):Sr×List Int) rfl (wB I) hv.symm (λF h=>⟨⟨by rw[hrn];exact h.2,hrn.symm,by show r.n<=r.cap;omega⟩,i.dg,by have e:=i.h;rw[hex.2,aq O,aq O]at e;simpa using e,by show i.out.length<=_;omega⟩)
theorem QDN(ha:k<a.length)(hb:k<b.length)(h:a.drop (k+1)=b.drop (k+1))(e:a[k]=b[k]):a.drop k=b.drop k:=by
 rw[aI ha,aI hb,h,e]
theorem Tp(hF:Fits F w)(hA:J7 F ra a)(hB:J7 F rb b)(da:DG B9 a)(db:DG B9 b)(za:NZ a)(zb:NZ b)(la:a.length<=100000000)(lb:b.length<=100000000):
  Qe Tryz.prog 240 [ra.v,rb.v] w F (.int .i64 (YP (dv B9 a) (dv B9 b))):=by
 have h91:(1:Int)<B9:=wa
 have h90:(0:Int)<B9:=wa
 obtain⟨q,n,c⟩:=ra
 obtain⟨q',n',c'⟩:=rb
 have na:=hA.2.1
 have nb:=hB.2.1
 dsimp only at na nb
 refine QS.intro (G:=λF=>J7 F ⟨q,n,c⟩ a/\J7 F ⟨q',n',c'⟩ b) Tryz.func240 rfl wc rfl rfl hF (λF' hF'=>⟨hA.le hF',hB.le hF'⟩) ?_
 dsimp only[Sr.v]
 refine wI<|wH I<|QG<|wJ I<|QA (Qh I Q2)<|wE I<|QA (Qh I Q2)<|QA (QZ I I I)<|QE<|QC ?_
 refine QR I (λhc=>?_) (λhc=>?_)
 ·
  refine QG<|wJ I<|QA (Qh I Q2)<|wE I<|QA (Qh I Q2)<|QA (QZ I I I)<|QE<|QC ?_
  refine QR I (λhc=>?_) (λhc2=>?_)
  ·
   refine wI<|wH I<|QY ?_
   exact QV () I (wB I) (congrArg (ah .i64) (Hh (ZY h91 da db zb (by simp at hc;omega)))) wh
  ·
   refine QQ<|QC<|wI<|wH I<|QY ?_
   exact QV () I (wB I) (congrArg (ah .i64) (MC (ZY h91 db da za (by simp at hc hc2;omega)))) wh
 ·
  refine QQ<|QC<|QG<|wJ I<|QA (Qh I Q2)<|QA (Xw I I O)<|wF I<|QE<|QC ?_
  have hab:n=n':=by simp at hc;omega
  refine QU<|Zy (ι:=QG6 a b) (λi=>[(0,.slice q n c),(1,.slice q' n' c'),(5,.int .i64 ((i.k:Int) - 1))]) (λ_=>[]) (λ_ F=>J7 F ⟨q,n,c⟩ a/\J7 F ⟨q',n',c'⟩ b) (λi=>i.k) ⟨n,O,by rw[aL O,aL O]⟩ wQ wK wi (λi=>?_)
  have hle:=i.le
  refine QG<|wJ I<|QA (QZ I I I)<|QE<|QC ?_
  refine QR I (λhc=>?_) (λhc=>?_)
  ·
   refine QQ<|QC<|QG<|QU<|QG<|QG ?_
   have hk0:0<i.k:=by have:=wM hc;omega
   have hka:i.k - 1<a.length:=O
   have hkb:i.k - 1<b.length:=O
   refine XQ _ (λw F hF h=>h.1.1.ptr (by dsimp only;omega)) (λhq=>?_)
   obtain⟨qb,qo,hq⟩:=hq
   dsimp only at hq
   subst hq
   refine XQ _ (λw F hF h=>h.2.1.ptr (by dsimp only;omega)) (λhq=>?_)
   obtain⟨qb',qo',hq⟩:=hq
   dsimp only at hq
   subst hq
   refine JO wK mixed y0<|QK (QD I)<|QK (QD I)<|QK (JG (i:=i.k - 1) rfl wA Q2 JR O)<|QK (Yg (n:=n) (sz:=1) (cs:=a.map JY) (u:=.int .i64 a[i.k - 1]) I JR (λF h=>h.1.1) O (by simp[hka,JY]))<|QK (QD I)<|QK (QD I)<|QK (JG (i:=i.k - 1) rfl wA Q2 JR O)<|QK (Yg (n:=n') (sz:=1) (cs:=b.map JY) (u:=.int .i64 b[i.k - 1]) I JR (λF h=>h.2.1) O (by simp[hkb,JY]))<|QK (QZ I I I)<|Q6<|QC ?_
   refine QR I (λhc=>?_) (λhca=>?_)
   ·
    refine wI<|wH I<|QY ?_
    repeat (first | refine JA ?_ | refine Q5 ?_)
    exact QV () I (wB I) (congrArg (ah .i64) (Hh (CK h90 da db O (i.k - 1) hka (by rw[show i.k - 1+1=i.k by omega];exact i.h) (wM hc)))) wh
   ·
    refine QQ<|QC<|QG<|JO wK mixed y0<|QK (QD I)<|QK (QD I)<|QK (JG (i:=i.k - 1) rfl wA Q2 JR O)<|QK (Yg (n:=n) (sz:=1) (cs:=a.map JY) (u:=.int .i64 a[i.k - 1]) I JR (λF h=>h.1.1) O (by simp[hka,JY]))<|QK (QD I)<|QK (QD I)<|QK (JG (i:=i.k - 1) rfl wA Q2 JR O)<|QK (Yg (n:=n') (sz:=1) (cs:=b.map JY) (u:=.int .i64 b[i.k - 1]) I JR (λF h=>h.2.1) O (by simp[hkb,JY]))<|QK (QZ I I I)<|Q6<|QC ?_
    refine QR I (λhc=>?_) (λhcb=>?_)
    ·
     refine wI<|wH I<|QY ?_
     repeat (first | refine JA ?_ | refine Q5 ?_)
     exact QV () I (wB I) (congrArg (ah .i64) (MC (CK h90 db da O (i.k - 1) hkb (by rw[show i.k - 1+1=i.k by omega];exact i.h.symm) (wM hc)))) wh
    ·
     refine QQ<|Qk<|QC<|QB<|wE I<|QA (Xw I I O)<|wF I<|QE ?_
     exact Ql (⟨i.k - 1,O,QDN hka hkb (by rw[show i.k - 1+1=i.k by omega];exact i.h) (by simp at hca hcb;omega)⟩:QG6 a b) (by show i.k - 1<i.k;omega) ⟨rfl,rfl,congrArg (λz:Int=>some (ah .i64 z)) (by dsimp only;omega),trivial⟩ wK wi
  ·
   refine Qz ?_
   repeat (first | refine QW ?_ | refine QP wc ?_)
   refine QX<|QC<|wI<|wH I<|QY ?_
   exact QV () I (wB I) (congrArg (ah .i64) (by have h0:i.k=0:=(by have:=wN hc;omega);have e:=i.h;rw[h0]at e;simp at e;rw[e];exact TB _)) wh
theorem QFT{out:List Int}{c:Int}(da:DG B9 out)(hl:out.length=a.length)(hb:b.length<=a.length)(h:dv B9 out+dv B9 (b.take a.length)=dv B9 (a.take a.length)+B9^a.length*c)(h0:0<=c)(h1:c<=1)(hle:dv B9 b<=dv B9 a):dv B9 out=dv B9 a - dv B9 b:=by
 rw[aA,aq hb]at h
 have hlt:=KE (b:=B9) wa da
 rw[hl]at hlt
 have hc:c=0\/c=1:=O
 rcases hc with rfl | rfl
 ·rw[Int.mul_zero]at h;omega
 ·rw[ee]at h;omega
theorem Cu(hF:Fits F w)(hA:J7 F ra a)(hB:J7 F rb b)(da:DG B9 a)(db:DG B9 b)(la:a.length<=100000000)(lb:b.length<=a.length)(hle:dv B9 b<=dv B9 a):
  Ly Tryz.prog 241 [ra.v,rb.v] w F (λl=>dv B9 l=dv B9 a - dv B9 b/\NZ l/\l.length<=a.length):=by
 obtain⟨q,n,c⟩:=ra
 have na:=hA.2.1
 have nb:=hB.2.1
 dsimp only at na
 have h9:B9=1000000000:=rfl
 refine QS.intro (G:=λF=>J7 F ⟨q,n,c⟩ a/\J7 F rb b) Tryz.func241 rfl wc rfl rfl hF (λF' hF'=>⟨hA.le hF',hB.le hF'⟩) ?_
 dsimp only[Sr.v]
 refine wI<|wH I<|wI<|wH I<|wI<|wH I<|QG<|wI<|wH I<|QU ?_
 refine Zy (ι:=QFt a b) (λi=>[(0,.slice q n c),(1,.slice rb.q rb.n rb.cap),(5,i.v),(6,.int .i64 i.borrow),(7,.int .i64 (i.i:Int))]) (λi=>i.ob) (λ_ F=>J7 F ⟨q,n,c⟩ a/\J7 F rb b) (λi=>a.length - i.i)
  ⟨0,[],0,.slice none 0 0,[],ax _,rfl,DG.nil _,wa,wa,we,.nil⟩ wS wu wi (λi=>?_)
 have hile:=i.le
 have hlen:=i.len
 have hc0:=i.c0
 have hc1:=i.c1
 refine QG<|wJ I<|wE I<|QA (Qh I Q2)<|QA (QZ I I I)<|QE<|QC ?_
 refine QR I (λhc=>?_) (λhc=>?_)
 ·
  have hi:i.i<n:=by have:=wM hc;omega
  have hia:i.i<a.length:=O
  have b1:=zE da i.i
  have b2:=zE db i.i
  have e1:a[i.i]=a.getD i.i 0:=by simp[hia]
  refine XQ _ (λw F hF h=>h.1.1.ptr (by dsimp only;omega)) (λhq=>?_)
  obtain⟨qb,qo,hq⟩:=hq
  dsimp only at hq
  subst hq
  refine QQ<|QC<|QG<|QU<|QG<|JO wK mixed y0<|QK (QD I)<|QK (QD I)<|QK (JG (i:=i.i) rfl rfl Q2 JR O)<|QK (Yg (n:=n) (sz:=1) (cs:=a.map JY) (u:=.int .i64 (a.getD i.i 0)) I JR (λF h=>h.1.1) O (by simp[hia,JY]))<|QK (QD I)<|QK (QD I)<|QN I (λw F hF h9=>Cy (r:=rb) (l:=b) hF h9.2 O) (λ_=>QK (Xw I I O)<|QK (QD I)<|QK (Xw I I O)<|QK (QF I)<|Q6<|QC<|wI<|wH I<|QG ?_)
  refine wJ I<|QA (QZ I I I)<|QE<|QC ?_
  refine QR I (λhs=>?_) (λhs=>?_)
  ·
   refine wJ I<|QA (Qu I I O)<|wH I<|QB<|wH I<|QB<|wE I<|wE I<|Qa I (Qw Q2) JR N3 I I (λb31=>?_)
   refine Yu (bs1:=[]) (ob:=i.ob) (k:=1) (sz:=1) (news:=[.int .i64 ((a.getD i.i 0 - b.getD i.i 0 - i.borrow)+1000000000)]) I I Q2 JR N3 I Av i.hr (Src.row (off:=0) wk (λj v hv=>by rw[aN];show([ah .i64 ((a.getD i.i 0 - b.getD i.i 0 - i.borrow)+1000000000)].toArray)[j]?=some v;rw[az];exact hv) rfl) O O (λu hu=>by rw[List.mem_singleton.1 hu];rfl) (λv' ob' hr'=>?_)
   refine wF I<|QE<|Qk<|QC<|QB<|wE I<|QA (Qu I I O)<|wF I<|QE ?_
   exact Ql (⟨i.i+1,i.out++[((a.getD i.i 0 - b.getD i.i 0 - i.borrow)+1000000000)],1,v',ob',O,by simp[hlen],i.dg.append (DG.cons (by have:=wM hs;omega) (by have:=wM hs;rw[h9];omega) (DG.nil _)),wa,wa,QDq hlen i.h (by rw[h9];omega),by simpa[JY]using hr'⟩:QFt a b) (by show a.length - (i.i+1)<a.length - i.i;omega) wS wK (λF h=>h.1.1)
  ·
   refine QQ<|QC<|QB<|wE I<|wE I<|Qa I (Qw Q2) JR N3 I I (λb31=>?_)
   refine Yu (bs1:=[]) (ob:=i.ob) (k:=1) (sz:=1) (news:=[.int .i64 (a.getD i.i 0 - b.getD i.i 0 - i.borrow)]) I I Q2 JR N3 I Av i.hr (Src.row (off:=0) wk (λj v hv=>by rw[aN];show([ah .i64 (a.getD i.i 0 - b.getD i.i 0 - i.borrow)].toArray)[j]?=some v;rw[az];exact hv) rfl) O O (λu hu=>by rw[List.mem_singleton.1 hu];rfl) (λv' ob' hr'=>?_)
   refine wF I<|QE<|Qk<|QC<|QB<|wE I<|QA (Qu I I O)<|wF I<|QE ?_
   exact Ql (⟨i.i+1,i.out++[(a.getD i.i 0 - b.getD i.i 0 - i.borrow)],0,v',ob',O,by simp[hlen],i.dg.append (DG.cons (by have:=wN hs;omega) (by have:=wN hs;rw[h9];omega) (DG.nil _)),wa,wa,QDq hlen i.h (by rw[h9];omega),by simpa[JY]using hr'⟩:QFt a b) (by show a.length - (i.i+1)<a.length - i.i;omega) wS wK (λF h=>h.1.1)
 ·
  refine Qz ?_
  repeat (first | refine QW ?_ | refine QP wc ?_)
  refine QX<|QC<|QG ?_
  obtain⟨r,hv,hrn,hrc,hfix⟩:=Qx.fix (w0:=w) (F0:=F) (bs1:=[]) (G:=λF=>J7 F ⟨q,n,c⟩ a/\J7 F rb b) i.hr
  have hex:i.i=a.length:=by have:=wN hc;omega
  have hlz:=YQ i.out
  refine xi hfix ?_
  rw[hv]
  refine QB<|wE I<|QI I (λw F hF h9=>PT (r:=r) (l:=i.out) hF ⟨by rw[hrn];exact h9.2,hrn.symm,O⟩ O) (λc34=>wH I<|QY ?_)
  exact QV ((⟨r.q,(JH i.out).length,r.cap⟩,JH i.out):Sr×List Int) rfl (wB I) rfl (λF h=>⟨h.2,i.dg.JH,by show dv B9 (JH i.out)=_;rw[Xe];exact QFT i.dg O lb (by have e:=i.h;rw[hex]at e;exact e) hc0 hc1 hle,ZW _,by show(JH i.out).length<=_;omega⟩)
theorem EA.stop{la lb:List Int}(h:EA la lb i 0 0 o 0)(hi:la.length<=i):dv B9 o=dv B9 la*dv B9 lb:=by
 have e:=h.2.2.2.2
 rw[aq hi]at e
 simpa using e
theorem U2(hF:Fits F w)(hA:J7 F ra a)(hB:J7 F rb b)(da:DG B9 a)(db:DG B9 b)(la:a.length<=100000000)(lb:b.length<=100000000):
  Ly Tryz.prog 195 [ra.v,rb.v] w F (λl=>dv B9 l=dv B9 a*dv B9 b/\NZ l/\l.length<=a.length+b.length):=by
 obtain⟨q,n,c⟩:=ra
 obtain⟨q',n',c'⟩:=rb
 have na:=hA.2.1
 have nb:=hB.2.1
 dsimp only at na nb
 have h9:B9=1000000000:=rfl
 refine QS.intro (G:=λF=>J7 F ⟨q,n,c⟩ a/\J7 F ⟨q',n',c'⟩ b) Tryz.func195 rfl wc rfl rfl hF (λF' hF'=>⟨hA.le hF',hB.le hF'⟩) ?_
 dsimp only[Sr.v]
 refine wI<|wH I<|wJ I<|QA (Qh I Q2)<|wE I<|QA (Qh I Q2)<|QA (Qu I I O)<|NI (n:=n+n') (bytes:=8) rfl rfl Q2 JR N3 I Av O O (λbk=>?_)
 rw[show Xb [ah .i64 0] (n+n')=(aO (a.length+b.length) (0:Int)).map JY by rw[Uj,na,nb];simp[JY]]
 refine wH I<|QG<|wI<|wH I<|QU ?_
 refine Zy (ι:=QGt a b) (λi=>[(0,.slice q n c),(1,.slice q' n' c'),(5,.slice (some ⟨bk,0,none⟩) (n+n') (n+n')),(6,.int .i64 (i.i:Int))]) (λi=>[(bk,.cells (i.o.map JY).toArray 3 (0,0))]) (λ_ F=>J7 F ⟨q,n,c⟩ a/\J7 F ⟨q',n',c'⟩ b) (λi=>a.length - i.i)
  ⟨0,_,ax _,EA.start a b⟩ wR wK wi (λi=>?_)
 have hile:=i.le
 refine QG<|wJ I<|wE I<|QA (Qh I Q2)<|QA (QZ I I I)<|QE<|QC ?_
 refine QR I (λhc=>?_) (λhc=>?_)
 ·
  have hi:i.i<n:=by have:=wM hc;omega
  have hia:i.i<a.length:=O
  refine XQ _ (λw F hF h=>h.1.1.ptr (by dsimp only;omega)) (λhq=>?_)
  obtain⟨qb,qo,hq⟩:=hq
  dsimp only at hq
  subst hq
  refine QQ<|QC<|QG<|QU<|wI<|wH I<|QG<|wI<|wH I<|QU ?_
  refine Zy (ι:=QGs a b i.i) (λi2=>[(0,.slice (some ⟨qb,qo,none⟩) n c),(1,.slice q' n' c'),(5,.slice (some ⟨bk,0,none⟩) (n+n') (n+n')),(6,.int .i64 (i.i:Int)),(7,.int .i64 i2.c),(8,.int .i64 (i2.j:Int))]) (λi2=>[(bk,.cells (i2.o.map JY).toArray 3 (0,0))]) (λ_ F=>J7 F ⟨some ⟨qb,qo,none⟩,n,c⟩ a/\J7 F ⟨q',n',c'⟩ b) (λi2=>b.length - i2.j)
   ⟨0,i.o,0,ax _,i.h.next _⟩ wT wK wi (λi2=>?_)
  have hjle:=i2.le
  have hol:i2.o.length=a.length+b.length:=i2.h.1
  have hcc:=i2.h.2.2.2.1
  refine QG<|wJ I<|wE I<|QA (Qh I Q2)<|QA (QZ I I I)<|QE<|QC ?_
  refine QR I (λhc=>?_) (λhc=>?_)
  ·
   have hj:i2.j<n':=by have:=wM hc;omega
   have hjb:i2.j<b.length:=O
   have hko:i.i+i2.j<i2.o.length:=O
   have bx:=da.Qf Jh i.i
   have by':=db.Qf Jh i2.j
   have bo:=i2.h.2.1.Qf Jh (i.i+i2.j)
   have bd:=zA bx by' bo hcc
   have hst:=i2.h.step bx db hjb hia rfl
   refine XQ _ (λw F hF h=>h.2.1.ptr (by dsimp only;omega)) (λhq=>?_)
   obtain⟨qb',qo',hq⟩:=hq
   dsimp only at hq
   subst hq
   refine QQ<|QC<|QG<|QU<|QG<|JO wK mixed y0<|QK (QD I)<|QK (QD I)<|QK (QD I)<|QK (Qu I I O)<|QK (JG (i:=i.i+i2.j) rfl rfl Q2 JR O)<|QK (V4 (c:=i2.o.map JY) (T':=3) rfl JR .here (UX hko))<|QK (QD I)<|QK (QD I)<|QK (JG (i:=i.i) rfl rfl Q2 JR O)<|QK (Yg (n:=n) (sz:=1) (cs:=a.map JY) rfl JR (λF h=>h.1.1) O (XR hia))<|QK (QD I)<|QK (QD I)<|QK (JG (i:=i2.j) rfl rfl Q2 JR O)<|QK (Yg (n:=n') (sz:=1) (cs:=b.map JY) rfl JR (λF h=>h.2.1) O (XR hjb))<|QK (PN I I O)<|QK (Qu I I O)<|QK (QD I)<|QK (Qu I I O)<|QK (QF I) ?_
   refine Q6<|QC<|wJ I<|wE I<|wE I<|QA (Qu I I O)<|wE I<|QA (BO I I O O)<|QA (JG (i:=i.i+i2.j) rfl rfl Q2 JR O)<|QO (vs:=[_]) I I I JR I .here (S7 hko _) wO<|wG<|QB<|wE I<|QA (Ro I I O O O)<|wF I<|QE<|Qk<|QC<|QB<|wE I<|QA (Qu I I O)<|wF I ?_
   refine QE ?_
   exact Ql (⟨i2.j+1,i2.o.set (i.i+i2.j) _,_,O,hst⟩:QGs a b i.i) (by show b.length - (i2.j+1)<b.length - i2.j;omega) wT wK wi
  ·
   have hjn:i2.j=b.length:=by have:=wN hc;omega
   have hko2:i.i+n'<i2.o.length:=O
   have hrow:EA a b (i.i+1) 0 0 (i2.o.set (i.i+n') i2.c) 0:=by
    have e:=i2.h
    rw[hjn]at e
    have:=e.row hia rfl
    rwa [nb]at this
   have hz:Qf i2.o (i.i+n')=0:=i2.h.2.2.1 _ O
   refine Qz ?_
   repeat (first | refine QW ?_ | refine QP wc ?_)
   refine QX<|QC<|QB<|wE I<|wE I<|wE I<|QA (Qh I Q2)<|QA (Qu I I O)<|wE I<|wE I<|wE I<|QA (Qh I Q2)<|QA (Qu I I O)<|QA (JG (i:=i.i+n') rfl rfl Q2 JR O)<|QA (V4 (c:=i2.o.map JY) (T':=3) rfl JR .here (UX hko2))<|wE I<|QA (Qu I I O)<|QA (JG (i:=i.i+n') rfl rfl Q2 JR O)<|QO (vs:=[_]) I I I JR I .here (S7 hko2 _) wO<|QE<|Qk<|QC<|QB<|wE I<|QA (Qu I I O) ?_
   refine wF I<|QE ?_
   exact Ql (⟨i.i+1,i2.o.set (i.i+n') i2.c,O,hrow⟩:QGt a b) (by show a.length - (i.i+1)<a.length - i.i;omega) wR (by rw[hz,Int.zero_add];exact eb _) wi
 ·
  refine Qz ?_
  repeat (first | refine QW ?_ | refine QP wc ?_)
  refine QX<|QC<|QG ?_
  have hex:a.length<=i.i:=by have:=wN hc;omega
  have hol:i.o.length=a.length+b.length:=i.h.1
  have hr:Qx 3 1 (.slice (some ⟨bk,0,none⟩) (n+n') (n+n')) (n+n') (i.o.map JY) [(bk,.cells (i.o.map JY).toArray 3 (0,0))]:=by
   have:=Qx.some (T:=3) (sz:=1) (b:=bk) (n:=n+n') (cap:=n+n') (l:=i.o.map JY) (rest:=[]) wg wg (ay _) (aH (show n+n'<=200000000 by omega) wa)
   simpa using this
  obtain⟨r,hv,hrn,hrc,hfix⟩:=Qx.fix (w0:=w) (F0:=F) (bs1:=[]) (G:=λF=>J7 F ⟨q,n,c⟩ a/\J7 F ⟨q',n',c'⟩ b) hr
  have hlz:=YQ i.o
  refine xi hfix ?_
  rw[hv]
  refine QB<|wE I<|QI I (λw F hF h9=>PT (r:=r) (l:=i.o) hF ⟨by rw[hrn];exact h9.2,by rw[hrn];omega,O⟩ O) (λc71=>wH I<|QY ?_)
  exact QV ((⟨r.q,(JH i.o).length,r.cap⟩,JH i.o):Sr×List Int) rfl (wB I) rfl (λF h=>⟨h.2,i.h.2.1.JH,by show dv B9 (JH i.o)=_;rw[Xe];exact i.h.stop hex,ZW _,by show(JH i.o).length<=_;omega⟩)
theorem set_drop{p:Nat}(h:p<o.length)(v:Int):(o.set p v).drop p=v::o.drop (p+1):=by
 rw[aI (by simpa using h)]
 congr 1
 ·simp
 ·rw[bF O]
theorem QFj{r d x:Int}(r0:0<=r)(r1:r<d)(hd:d<B9)(hx:0<=x/\x<B9):0<=r*B9+x/\0<=(r*B9+x) / d/\(r*B9+x) / d<B9/\0<=(r*B9+x)%d/\(r*B9+x)%d<d:=by
 have h0:0<=r*B9:=bf r0 wa
 refine⟨O,aS O O,bA O ?_,aZ _ O,aW _ O⟩
 have h1:(r+1)*B9<=d*B9:=Int.mul_le_mul_of_nonneg_right O wa
 rw[Int.add_mul,aU]at h1
 rw[bt B9 d]
 omega
theorem QGb{d r s:Int}{p:Nat}(hp:p<a.length)(ho:p<o.length)(h:dv B9 (a.drop (p+1))=d*dv B9 (o.drop (p+1))+r)(hs:s=r*B9+Qf a p):
  dv B9 (a.drop p)=d*dv B9 ((o.set p (s / d)).drop p)+s%d:=by
 rw[set_drop ho,aI hp,<-Zx hp]
 simp only[dv]
 rw[h]
 have e:s%d+d*(s / d)=s:=bz s d
 generalize s / d=u at *
 generalize s%d=v at *
 generalize B9=B at *
 grind
theorem xf{d:Int}(hF:Fits F w)(hA:J7 F ra a)(da:DG B9 a)(la:a.length<=100000000)(d0:0<d)(d1:d<B9):
  QS Tryz.prog 270 [ra.v,.int .i64 d] w F (λ(c:(Sr×List Int)×Int)=>.tuple [.slice c.1.1.q c.1.1.n c.1.1.cap,.int .i64 c.2].toArray) (λc F=>J7 F c.1.1 c.1.2/\DG B9 c.1.2/\NZ c.1.2/\0<=c.2/\c.2<d/\dv B9 a=d*dv B9 c.1.2+c.2/\c.1.2.length<=a.length):=by
 obtain⟨q,n,c⟩:=ra
 have na:=hA.2.1
 dsimp only at na
 have h9:B9=1000000000:=rfl
 refine QS.intro (G:=λF=>J7 F ⟨q,n,c⟩ a) Tryz.func270 rfl wc rfl rfl hF (λF' hF'=>hA.le hF') ?_
 dsimp only[Sr.v]
 refine wI<|wF I<|wH I<|wJ I<|QA (Qh I Q2)<|NI (n:=n) (bytes:=8) rfl rfl Q2 JR N3 I Av O O (λbk=>?_)
 rw[show Xb [ah .i64 0] n=(aO a.length (0:Int)).map JY by rw[Uj,na];simp[JY]]
 refine wH I<|wI<|wH I<|QG<|wJ I<|QA (Qh I Q2)<|QA (Xw I I O)<|wH I<|QU ?_
 refine Zy (ι:=QG4 a d) (λi=>[(0,.slice q n c),(1,.int .i64 d),(6,.slice (some ⟨bk,0,none⟩) n n),(7,.int .i64 i.r),(8,.int .i64 ((i.k:Int) - 1))]) (λi=>[(bk,.cells (i.o.map JY).toArray 3 (0,0))]) (λ_ F=>J7 F ⟨q,n,c⟩ a) (λi=>i.k)
  ⟨n,aO a.length 0,0,O,we,DG.replicate Jh _,ei _,d0,by rw[aL O,aL wg];simp[dv]⟩ wS wK wi (λi=>?_)
 have hile:=i.le
 have hol:=i.len
 have hr0:=i.r0
 have hr1:=i.r1
 refine QG<|wJ I<|QA (QZ I I I)<|QE<|QC ?_
 refine QR I (λhc=>?_) (λhc=>?_)
 ·
  have hk0:0<i.k:=by have:=wM hc;omega
  have hka:i.k - 1<a.length:=O
  have hko:i.k - 1<i.o.length:=O
  have bx:=da.Qf Jh (i.k - 1)
  have bd:=QFj hr0 hr1 d1 bx
  rw[h9]at bd
  have hst:=QGb (d:=d) (r:=i.r) (s:=i.r*1000000000+Qf a (i.k - 1)) hka hko (by rw[show i.k - 1+1=i.k by omega];exact i.h) rfl
  refine XQ _ (λw F hF h=>h.1.ptr (by dsimp only;omega)) (λhq=>?_)
  obtain⟨qb,qo,hq⟩:=hq
  dsimp only at hq
  subst hq
  refine QQ<|QC<|QG<|QU<|wJ I<|QA (PN I I O)<|wE I<|wE I<|QA (JG (i:=i.k - 1) rfl wA Q2 JR O)<|QA (Yg (n:=n) (sz:=1) (cs:=a.map JY) rfl JR wj O (XR hka))<|QA (Qu I I O)<|wH I<|wJ I<|wE I<|wE I<|wE I<|QA (Ro I I O O O)<|QA (JG (i:=i.k - 1) rfl wA Q2 JR O)<|QO (vs:=[_]) I I I JR I .here (S7 hko _) wO ?_
  refine wG<|QB<|wE I<|wE I<|QA (BO I I O O)<|wF I<|QE<|Qk<|QC<|QB<|wE I<|QA (Xw I I O)<|wF I<|QE ?_
  exact Ql (⟨i.k - 1,i.o.set (i.k - 1) ((i.r*1000000000+Qf a (i.k - 1)) / d),(i.r*1000000000+Qf a (i.k - 1))%d,O,by simpa using hol,i.dg.set _ bd.2.1 bd.2.2.1,bd.2.2.2.1,bd.2.2.2.2,hst⟩:QG4 a d) (by show i.k - 1<i.k;omega) ⟨rfl,rfl,rfl,rfl,congrArg (λz:Int=>some (ah .i64 z)) (by dsimp only;omega),trivial⟩ wK wi
 ·
  refine Qz ?_
  repeat (first | refine QW ?_ | refine QP wc ?_)
  refine QX<|QC<|QG ?_
  have hex:i.k=0:=by have:=wN hc;omega
  have hr:Qx 3 1 (.slice (some ⟨bk,0,none⟩) n n) n (i.o.map JY) [(bk,.cells (i.o.map JY).toArray 3 (0,0))]:=by
   have:=Qx.some (T:=3) (sz:=1) (b:=bk) (n:=n) (cap:=n) (l:=i.o.map JY) (rest:=[]) wg wg (ay _) (aH (show n<=200000000 by omega) wa)
   simpa using this
  obtain⟨r,hv,hrn,hrc,hfix⟩:=Qx.fix (w0:=w) (F0:=F) (bs1:=[]) (G:=λF=>J7 F ⟨q,n,c⟩ a) hr
  have hlz:=YQ i.o
  have hfin:=i.h
  rw[hex,aT,aT]at hfin
  refine xi hfix ?_
  rw[hv]
  refine QB<|wE I<|QI I (λw F hF h9=>PT (r:=r) (l:=i.o) hF ⟨by rw[hrn];exact h9.2,by rw[hrn];omega,O⟩ O) (λc37=>wE I<|wF I<|wH I<|QY ?_)
  exact JZ (((⟨r.q,(JH i.o).length,r.cap⟩,JH i.o),i.r):(Sr×List Int)×Int) rfl (wC I I) rfl (λF h=>⟨h.2,i.dg.JH,ZW _,hr0,hr1,by show _=d*dv B9 (JH i.o)+i.r;rw[Xe];exact hfin,by show(JH i.o).length<=_;omega⟩)
theorem dS{u v:List Int}{t:Int}(hu:DG B9 u)(t0:0<=t)(h:dv B9 u<t*dv B9 v):0<=t - 1:=by
 have:=Q8 (b:=B9) wa hu
 rcases bw 0 t with g | g
 ·omega
 ·have e:t=0:=O
  subst e;rw[Int.zero_mul]at h;omega
theorem QD1{rest:List Value}{w0:World}{F0:Gs}{G:Gs->Prop}{bs:List (Nat×Obj)}{bu nu cu j:Nat}{rv:Sr}{U v:List Int}(hU:U.length=nu)(hj:j+m+3<=nu)(hn:nu<=1000000000)(hG:∀F,G F->J7 F rv v)(hS:Wv B9 ((U.drop j).take (m+3)) v m):
  XB Tryz.prog 272 [.slice (some ⟨bu,0,none⟩) nu cu,rv.v,.int .i64 (j:Int)] ⟨w0,F0,(bu,.cells (U.map JY++rest).toArray 3 (0,0))::bs,G⟩ (λt:Int=>.int .i64 t) (λt=>⟨w0,F0,(bu,.cells (U.map JY++rest).toArray 3 (0,0))::bs,λF=>G F/\zK ((U.drop j).take (m+3)) v t⟩):=by
 obtain⟨q,n,c⟩:=rv
 have hlv:=hS.lv
 have h9:B9=1000000000:=rfl
 have u2:Qf ((U.drop j).take (m+3)) (m+2)=Qf U (j+(m+2)):=qX O
 have u1:Qf ((U.drop j).take (m+3)) (m+1)=Qf U (j+(m+1)):=qX O
 have u0:Qf ((U.drop j).take (m+3)) m=Qf U (j+m):=qX O
 have b2:=hS.hu.Qf Jh (m+2)
 have b1:=hS.hu.Qf Jh (m+1)
 have b0:=hS.hu.Qf Jh m
 have c1:=hS.hv.Qf Jh (m+1)
 have c0:=hS.hv.Qf Jh m
 have nz:=hS.nz
 refine XB.intro Tryz.func272 rfl rfl rfl rfl ?_
 dsimp only[Sr.v]
 refine XQ _ (λw F hF h=>(hG F h).2.1) (λhnv=>?_)
 dsimp only at hnv
 obtain rfl:n=m+2:=O
 refine XQ _ (λw F hF h=>(hG F h).1.ptr (by dsimp only;omega)) (λhq=>?_)
 obtain⟨qb,qo,hq⟩:=hq
 dsimp only at hq
 subst hq
 refine wI<|wH I<|wJ I<|QA (Qh I Q2)<|wH I<|QG<|JO wK mixed y0<|QK (QD I)<|QK (QD I)<|QK (QD I)<|QK (Qu I I O)<|QK (JG (i:=j+(m+2)) I wA Q2 JR O)<|QK (V4 (v:=.int .i64 (Qf ((U.drop j).take (m+3)) (m+2))) (c:=U.map JY++rest) (T':=3) rfl JR .here (by rw[u2];exact WY O))<|QK (PN I I O)<|QK (QD I)<|QK (QD I)<|QK (QD I)<|QK (Qu I I O) ?_
 refine QK (Xw I I O)<|QK (JG (i:=j+(m+1)) I wA Q2 JR O)<|QK (V4 (v:=.int .i64 (Qf ((U.drop j).take (m+3)) (m+1))) (c:=U.map JY++rest) (T':=3) rfl JR .here (by rw[u1];exact WY O))<|QK (Qu I I O)<|QK (QF I)<|Q6<|QC<|QG<|JO wK mixed y0<|QK (QD I)<|QK (QD I)<|QK (QD I)<|QK (Xw I I O)<|QK (JG (i:=m+1) rfl wA Q2 JR O)<|QK (Yg (n:=m+2) (sz:=1) (cs:=v.map JY) rfl JR (λF h=>(hG F h).1) O (XR (show m+1<v.length by omega)))<|QK (Ro I I O O O)<|QK (QD I)<|QK (QD I)<|QK (QD I)<|QK (Xw I I O)<|QK (JG (i:=m+1) rfl wA Q2 JR O)<|QK (Yg (n:=m+2) (sz:=1) (cs:=v.map JY) rfl JR (λF h=>(hG F h).1) O (XR (show m+1<v.length by omega)))<|QK (BO I I O O)<|QK (QF I)<|QK (QF I) ?_
 refine Q6<|QC<|QG<|QU ?_
 refine Zy (ι:=GuI ((U.drop j).take (m+3)) v m) (λi=>[(0,.slice (some ⟨bu,0,none⟩) nu cu),(1,.slice (some ⟨qb,qo,none⟩) (m+2) c),(2,.int .i64 (j:Int)),(7,.int .i64 ((m+2:Nat):Int)),(9,.int .i64 i.t),(10,.int .i64 i.r)]) (λ_=>(bu,.cells (U.map JY++rest).toArray 3 (0,0))::bs) (λ_=>G) (λi=>i.t.toNat)
  ⟨(Qf ((U.drop j).take (m+3)) (m+2)*1000000000+Qf ((U.drop j).take (m+3)) (m+1)) / Qf v (m+1),(Qf ((U.drop j).take (m+3)) (m+2)*1000000000+Qf ((U.drop j).take (m+3)) (m+1))%Qf v (m+1),aS O O,aZ _ O,Int.lt_trans (aW _ nz) c1.2,Int.le_trans (aR (a:=(Qf ((U.drop j).take (m+3)) (m+2)*1000000000+Qf ((U.drop j).take (m+3)) (m+1))) _ O) O,by rw[bt,Int.add_comm];exact bz _ _,QCl hS (aS O O) (Int.lt_ediv_add_one_mul_self _ nz)⟩ wT wK wi (λi=>?_)
 have t0:=i.t0
 have r0:=i.r0
 have r1:=i.r1
 have t2:=i.t2
 refine QG<|QG<|JO wK mixed y0<|QK (QD I)<|QK (QZ I I I)<|QK (QD I) ?_
 refine N0 (t:=44) rfl (λhb44=>?_) (λhb44=>?_)
 ·
  refine Xr I I I<|Xr I I I<|Xr I I I<|Xr I I I<|Xr I I I<|Xr I I I<|Xr I I I<|Xr I I I<|Xr I I I<|Xr I I I<|Xr I I I<|Xr I I I<|Xr I I I<|Xr I I I<|Xr I I I<|Xr I I I<|Xr I I I<|Xr I I I<|QK (Qp I I I)<|Q6<|QC<|qp I ?_
  have hl:dv B9 ((U.drop j).take (m+3))<i.t*dv B9 v:=QFx hS (by have:=wM hb44;omega)
  refine QQ<|QC<|QU<|wJ I<|QA (Xw I I O)<|wH I<|wJ I<|wE I<|wE I<|QA (Xw I I O)<|QA (JG (i:=m+1) rfl wA Q2 JR O)<|QA (Yg (n:=m+2) (sz:=1) (cs:=v.map JY) rfl JR (λF h=>(hG F h).1) O (XR (show m+1<v.length by omega)))<|QA (Qu I I O)<|wH I<|wI<|wE I ?_
  refine QA (QZ I I I)<|QE<|QC ?_
  refine QR I (λhc=>?_) (λhc=>?_)
  ·
   refine wJ I<|wH I<|QY ?_
   repeat (first | refine JA ?_ | refine Q5 ?_)
   exact KQ (i.t - 1) rfl (wB I) rfl (λw h=>h.imp wK (λF h=>⟨h,uX (r:=i.r+Qf v (m+1)) hS (dS hS.hu t0 hl) (by rw[aX,aU,<-i.e];omega) (by have:=wM hc;omega) (by rw[aP];exact hl)⟩))
  ·
   refine QQ<|Qk ?_
   exact Ql (⟨i.t - 1,i.r+Qf v (m+1),(dS hS.hu t0 hl),O,by have:=wN hc;omega,O,(by rw[aX,aU,<-i.e];omega),(by rw[aP];exact hl)⟩:GuI ((U.drop j).take (m+3)) v m) (by show(i.t - 1).toNat<i.t.toNat;have:=(dS hS.hu t0 hl);omega) wT wK wi
 ·
  have tb:i.t<B9:=by have:=wN hb44;omega
  have p0:0<=i.t*Qf v m:=bf t0 c0.1
  have p1:i.t*Qf v m<=1000000000*1000000000:=bS O O c0.1 wa
  refine YC I I<|QK (QD I)<|YC I I<|QK (QD I)<|YC I I<|QK (QD I)<|YC I I<|QK (Xw I I O)<|YC I I<|QK (JG (i:=m) rfl wA Q2 JR O)<|YC I I<|QK (Yg (n:=m+2) (sz:=1) (cs:=v.map JY) rfl JR (λF h=>(hG F h).1) O (XR (show m<v.length by omega)))<|YC I I<|QK (PN I I O)<|YC I I<|QK (QD I)<|YC I I<|QK (PN I I O)<|YC I I<|QK (QD I)<|YC I I<|QK (QD I)<|YC I I<|QK (QD I)<|YC I I ?_
  refine QK (Qu I I O)<|YC I I<|QK (Xw I I O)<|YC I I<|QK (JG (i:=j+m) rfl wA Q2 JR O)<|YC I I<|QK (V4 (v:=.int .i64 (Qf ((U.drop j).take (m+3)) (m))) (c:=U.map JY++rest) (T':=3) rfl JR .here (by rw[u0];exact WY O))<|YC I I<|QK (Qu I I O)<|YC I I<|QK (QZ I I I)<|QK (Qj I I I)<|Q6<|QC ?_
  refine QR I (λhc=>?_) (λhc=>?_)
  ·
   have hl:dv B9 ((U.drop j).take (m+3))<i.t*dv B9 v:=QEi hS t0 i.e (by have:=wM hc;rw[h9];omega)
   refine QQ<|QC<|QU<|wJ I<|QA (Xw I I O)<|wH I<|wJ I<|wE I<|wE I<|QA (Xw I I O)<|QA (JG (i:=m+1) rfl wA Q2 JR O)<|QA (Yg (n:=m+2) (sz:=1) (cs:=v.map JY) rfl JR (λF h=>(hG F h).1) O (XR (show m+1<v.length by omega)))<|QA (Qu I I O)<|wH I<|wI<|wE I ?_
   refine QA (QZ I I I)<|QE<|QC ?_
   refine QR I (λhc=>?_) (λhc=>?_)
   ·
    refine wJ I<|wH I<|QY ?_
    repeat (first | refine JA ?_ | refine Q5 ?_)
    exact KQ (i.t - 1) rfl (wB I) rfl (λw h=>h.imp wK (λF h=>⟨h,uX (r:=i.r+Qf v (m+1)) hS (dS hS.hu t0 hl) (by rw[aX,aU,<-i.e];omega) (by have:=wM hc;omega) (by rw[aP];exact hl)⟩))
   ·
    refine QQ<|Qk ?_
    exact Ql (⟨i.t - 1,i.r+Qf v (m+1),(dS hS.hu t0 hl),O,by have:=wN hc;omega,O,(by rw[aX,aU,<-i.e];omega),(by rw[aP];exact hl)⟩:GuI ((U.drop j).take (m+3)) v m) (by show(i.t - 1).toNat<i.t.toNat;have:=(dS hS.hu t0 hl);omega) wT wK wi
  ·
   refine Qz ?_
   repeat (first | refine QW ?_ | refine QP wc ?_)
   refine QX<|QC<|wJ I<|wH I<|QY ?_
   exact KQ (i.t) rfl (wB I) rfl (λw h=>h.imp wK (λF h=>⟨h,⟨t0,tb,QCm hS t0 tb i.e (by have:=wN hc;rw[h9];omega),i.h⟩⟩))
end Go.Proofs.YtjcphjpkimmmjaaGreatDoor
namespace Ig
theorem QFU{b t x br:Int}(hb:1<b)(ht:0<=t/\t<b)(hx:0<=x/\x<b)(h:0<=br/\br<=b):0<=t*x/\t*x<=(b - 1)*(b - 1)/\0<=(t*x+br) / b/\(t*x+br) / b<b:=by
 have h0:=bf ht.1 hx.1
 have h1:t*x<=(b - 1)*(b - 1):=bS O O hx.1 O
 refine⟨h0,h1,aS O O,bA O ?_⟩
 have e:(b - 1)*(b - 1)=b*b - 2*b+1:=by grind
 omega
theorem Lg.stop{b:Int}(hb:1<b){U v U':List Int}{j n:Nat}{t br:Int}(h:Lg b U v j t n U' br)(hn:v.length=n)(hj:j+n<U.length):Lf b U v j n t (U'.set (j+n) (Qf U (j+n) - br)) (Qf U (j+n) - br):=by
 obtain⟨h1,h2,h3,h4,h5,h6,h7⟩:=h
 have hd:Qf U' (j+n)=Qf U (j+n):=VA h4 (ay _)
 refine⟨by simpa using h1,?_,?_,?_,?_,?_⟩
 ·rw[List.set_set];exact h2.set _ (ei _) O
 ·rw[List.take_set_of_le O];exact h3
 ·rw[bF O,<-bc,h4,bc]
 ·rw[GX O,if_pos rfl]
 ·rw[DO b O,hd]
  rw[aq O]at h7
  generalize b^(j+n)=p at *
  generalize b^j=q at *
  grind
end Ig
namespace Go.Proofs.YtjcphjpkimmmjaaGreatDoor
variable{x:Rat}{a b l o:List Int}{n zx:Int}{w:World}{F:Gs}{s:List UInt8}{i k m:Nat}{ra rb:Sr}{T:TypeId}
open Go.RowKit Ig
theorem QEL{v:List Int}{n:Nat}{f:Int}(db:DG B9 b)(zb:NZ b)(hn:b.length=n+1)(dv':DG B9 v)(zv:NZ v)(h:dv B9 v=dv B9 b*f)(h1:1<=f)(h2:f*(Qf b n+1)<=B9):v.length=n+1:=by
 have hlt:n<b.length:=O
 have e1:dv B9 b=dv B9 (b.take n)+B9^n*Qf b n:=by
  have:=Wy B9 b n
  rw[aq O]at this;exact this
 have e2:=KE Jh (db.take n)
 rw[show(b.take n).length=n by simp;omega]at e2
 have hb0:B9^n<=dv B9 b:=by
  have:=Nk Jh db zb (by intro e;rw[e]at hn;simp at hn)
  rw[hn,Nat.add_sub_cancel]at this;exact this
 have hp:=pow_pos Jh n
 have hup:dv B9 b<B9^n*(Qf b n+1):=by rw[Int.mul_add,ee];omega
 have hv1:dv B9 v<B9^(n+1):=by
  rw[h,Int.pow_succ]
  have:dv B9 b*f<B9^n*(Qf b n+1)*f:=Int.mul_lt_mul_of_pos_right hup O
  have q:B9^n*(Qf b n+1)*f<=B9^n*B9:=by
   rw[Int.mul_assoc,bt (Qf b n+1)]
   exact aY h2 O
  omega
 have hv0:B9^n<=dv B9 v:=by
  rw[h]
  have:dv B9 b*1<=dv B9 b*f:=aY h1 O
  omega
 rcases Nat.lt_trichotomy v.length (n+1)with g | g | g
 ·have h3:=KE Jh dv'
  have h4:=Ig.X1 (b:=B9) wa (show v.length<=n by omega)
  omega
 ·exact g
 ·have h3:=Nk Jh dv' zv (by intro e;rw[e]at g;simp at g)
  have h4:=Ig.X1 (b:=B9) wa (show n+1<=v.length - 1 by omega)
  omega
section
variable[Dr][df:Df]{P:Program}{Q:Exit->Act->World->Prop}{N:Nat}{m:Sl}{ops:Array Oper}{l:List Oper}{w0:World}{F0:Gs}{bs:List (Nat×Obj)}{G:Gs->Prop}{ty:TypeId}{pos:String}{aft:Array Edge}
theorem Qx.big{sz n:Nat}{v:Value}{cs:List Value}{ob:List (Nat×Obj)}(hr:Qx T sz v n cs ob)(hn:0<n):∃b cap rest,v = .slice (Option.some ⟨b,0,Option.none⟩) n cap/\ob=[(b,.cells (cs++rest).toArray T (0,0))]/\n<=cap:=by
 cases hr with
 |nil=>exact absurd hn (bU 0)
 |some h1 h2 h3 h4=>exact⟨_,_,_,rfl,rfl,h3⟩
theorem Src.QH8{sz b off c:Nat}{news:List Value}(hr:∀F,G F->Qy F (some ⟨b,off,none⟩) k sz news)(hk:0<k)(hl:news.length=k*sz):Src ⟨w0,F0,bs,G⟩ sz (.slice (.some ⟨b,off,none⟩) k c) k news :=
 ⟨hl,.inr ⟨_,_,rfl,λw hw j v hv=>by rw[H2];exact GG hw hr hk hv⟩⟩
end
theorem J7.QID{b n c:Nat}(h:F b=some ((l.map JY).toArray,T))(hl:l.length=n)(hn:n<=c):J7 F ⟨some ⟨b,0,none⟩,n,c⟩ l:=J7.own (rest:=[]) (by rw[List.append_nil];exact h) hl hn
theorem J7.one{b:Nat}{x:Int}(h:F b=some (([ah .i64 x]:List Value).toArray,T)):J7 F ⟨some ⟨b,0,none⟩,1,1⟩ [x]:=⟨Qy.of h rfl,rfl,ay _⟩
theorem SB{m:List Int}(hl:DG B9 l)(hm:DG B9 m)(zl:NZ l)(h:dv B9 l<=dv B9 m):l.length<=m.length:=by
 rcases bj m.length l.length with g | g
 ·have:=ZY SH hm hl zl g;omega
 ·exact g
@[reducible] def QHx (c:(Sr×List Int)×(Sr×List Int)):Value:=.tuple #[.slice c.1.1.q c.1.1.n c.1.1.cap,.slice c.2.1.q c.2.1.n c.2.1.cap]
set_option maxHeartbeats 4000000 in
theorem U5(hF:Fits F w)(hA:J7 F ra a)(hB:J7 F rb b)(da:DG B9 a)(db:DG B9 b)(za:NZ a)(zb:NZ b)(hb:0<dv B9 b)(la:a.length<=10000000)(lb:b.length<=10000000):
  QS Tryz.prog 190 [ra.v,rb.v] w F QHx (λc F=>QCt a b c F):=by
 obtain⟨q,n,c⟩:=ra
 obtain⟨q',n',c'⟩:=rb
 have na:=hA.2.1
 have nb:=hB.2.1
 dsimp only at na nb
 have h9:B9=1000000000:=rfl
 have nb0:0<n':=by
  rcases aC n' with g | g
  ·rw[g]at nb;rw[ai nb]at hb;simp at hb
  ·exact g
 dsimp only[Sr.v]
 refine QS.intro (G:=λF=>J7 F ⟨q,n,c⟩ a/\J7 F ⟨q',n',c'⟩ b) Tryz.func190 rfl wc rfl rfl hF (λF' hF'=>⟨hA.le hF',hB.le hF'⟩)<|wI<|wF rfl<|wH rfl<|QG<|wJ rfl<|wE rfl<|QI rfl (λw F hF h9=>Tp hF (ra:=⟨q,n,c⟩) (rb:=⟨q',n',c'⟩) h9.1 (h9.2) (da) (db) (za) (zb) O O) (λ_=>QA (QZ rfl rfl rfl)<|QE<|QC ?_)
 refine QR I (λhc=>?_) (λhc=>?_)
 ·
  have hlt:dv B9 a<dv B9 b:=by have:=wM hc;unfold YP at this;split at this;assumption;split at this<;>omega
  refine wJ I<|wF I<|wH I<|QY ?_
  exact JZ (((⟨none,0,0⟩,[]),(⟨q,n,c⟩,a)):(Sr×List Int)×(Sr×List Int)) I (wC I I) (rfl) (λF h9=>⟨⟨⟨Qy.nil F _ _,rfl,ay _⟩,DG.nil _,by simp[NZ],by rw[j0];exact(Int.ediv_eq_zero_of_lt (Q8 Jh da) hlt).symm⟩,h9.1.1,da,za,(Int.emod_eq_of_lt (Q8 Jh da) hlt).symm⟩)
 ·
  have hge:dv B9 b<=dv B9 a:=by have:=wN hc;unfold YP at this;split at this;exact absurd this wa;omega
  refine QQ<|QC<|QG<|wJ I<|QA (Qh I Q2)<|QA (QZ I I I)<|QE<|QC ?_
  refine QR I (λhc=>?_) (λhc=>?_)
  ·
   have hn1:n'=1:=by have:=wM hc;omega
   subst hn1
   obtain⟨f1,_⟩:=jd (n:=0) db zb nb
   have bx:=db.Qf Jh 0
   have d0:=bx.2
   refine wJ I<|wE I<|QA (Q9 (n:=1) (0) (λF h9=>(h9.1.2).1) rfl wA Q2 JR O)<|QA (Jd (n:=1) ((0)*1) (λF h9=>(h9.1.2).1) O rfl JR (XR (o:=b) O))<|QI I (λw F hF h9=>xf hF (ra:=⟨q,n,c⟩) h9.1.1 (da) O O (d0)) (λc37=>wE I<|QA (QT I I)<|QA (QT I I)<|wF I<|wH I<|QG<|XQ _ (λw F hF h9=>h9.2.2) (λp37=>QB<|wE I<|wE I<|Qa I (Qw Q2) JR N3 I I (λb42=>QI I (λw F hF h9=>PT hF (r:=⟨some ⟨b42,0,none⟩,1,1⟩) (J7.one h9.2) we) (λc43=>wF I<|wF I<|QE<|QC ?_))))
   refine QY ?_
   exact JZ (((c37.1.1,c37.1.2),(⟨some ⟨b42,0,none⟩,(JH [c37.2]).length,1⟩,JH [c37.2])):(Sr×List Int)×(Sr×List Int)) I (wC I I) (rfl) (λF h9=>QCk nb db c37 h9.1.1.2 h9.2)
  ·
   have hn2:n'≠1:=λe=>wN hc O
   obtain⟨m,rfl⟩:∃m,n'=m+2:=⟨n' - 2,O⟩
   obtain⟨f1,f2,f3,f4⟩:=jd (n:=m+1) db zb nb
   have bx:=db.Qf Jh (m+1)
   rw[h9]at bx f2 f3 f4
   have d1f:DG B9 [1000000000 / (Qf b (m+1)+1)]:=DG.cons O f3 (DG.nil _)
   refine QQ<|QC<|wJ I<|wE I<|QA (Qh I Q2)<|QA (Xw I I O)<|QA (Q9 (n:=(m+2)) (m+1) (λF h9=>(h9.1.2).1) rfl wA Q2 JR O)<|QA (Jd (n:=(m+2)) ((m+1)*1) (λF h9=>(h9.1.2).1) O rfl JR (XR (o:=b) O))<|QA (Qu I I O)<|QA (Ro I I O O O)<|Qa I (Qw Q2) JR N3 I I (λb52=>wH I<|wJ I<|wE I ?_)
   refine QI I (λw F hF h9=>U2 hF (ra:=⟨q',m+2,c'⟩) (rb:=⟨some ⟨b52,0,none⟩,1,1⟩) h9.1.1.2 (J7.one h9.2) (db) (d1f) O (by first | omega | (simp;done) | (simp;omega))) (λc55=>?_);rcases c55 with ⟨v55,l55⟩;dsimp only
   refine JQ _ (λw F hF ⟨⟨⟨⟨hA,hB⟩,_⟩,hs52⟩,⟨h55,h55p⟩⟩=>av h55.2 h55p) (λp55=>wH rfl<|QG ?_)
   obtain⟨⟨n55,c55⟩,d55,e55,z55,m55⟩:=p55
   rw[vV]at e55
   have l55l:l55.length=m+2:=QEL db zb nb d55 z55 e55 f2 f4
   obtain⟨qv,nv,cv⟩:=v55
   dsimp only at n55 c55 ⊢
   obtain rfl:nv=m+2:=O
   have zv:0<Qf l55 (m+1):=by have:=(jd (n:=m+1) d55 z55 l55l).1;omega
   have hlab:b.length<=a.length:=SB db da zb hge
   refine QB<|wE I<|QA (Qh I Q2)<|wH I<|wI<|ML (Qw Q2) JR (λb58=>wE I<|wE I ?_)
   refine QI I (λw F hF h9=>U2 hF (ra:=⟨q,n,c⟩) (rb:=⟨some ⟨b52,0,none⟩,1,1⟩) h9.1.1.1.1 (J7.one h9.1.2) (da) (d1f) O (by first | omega | (simp;done) | (simp;omega))) (λc61=>?_);rcases c61 with ⟨v61,l61⟩;dsimp only
   refine JQ _ (λw F hF ⟨⟨⟨⟨⟨hA,hB⟩,_⟩,hs52⟩,⟨h55,h55p⟩⟩,⟨h61,h61p⟩⟩=>av h61.2 h61p) (λp61=>?_)
   obtain⟨⟨n61,c61⟩,d61,e61,z61,m61⟩:=p61
   rw[vV]at e61
   have hpos:0<l61.length:=by
    rcases aC l61.length with g | g
    ·rw[ai g,j0]at e61
     have:0<dv B9 a*(1000000000 / (Qf b (m+1)+1)):=Int.mul_pos O O
     omega
    ·exact g
   obtain⟨qa,na',ca⟩:=v61
   dsimp only at n61 c61 ⊢
   refine JQ _ (λw F hF h=>h.2.1.1.ptr (by dsimp only;omega)) (λhq=>?_)
   obtain⟨qab,qao,hq⟩:=hq
   dsimp only at hq
   subst hq
   simp only[bp]at m61
   refine Yu (bs1:=[]) (ob:=[(b58,.cells #[] 3 (0,0))]) (n:=0) (k:=na') (sz:=1) (olds:=[]) (news:=l61.map JY) rfl rfl Q2 JR N3 rfl Av (Qx.some (l:=[]) (rest:=[]) rfl rfl (ay _) (ax _)) (Src.QH8 (λF h=>h.2.1.1) O wg) O O (λv hv=>by obtain⟨x,_,rfl⟩:=List.mem_map.1 hv;rfl) (λv62 ob62 hr62=>wH I<|QG<|QU<|JU (ι:=QHc a (1000000000 / (Qf b (m+1)+1))) [(0,_),(8,_),(9,_),(10,_)] (λi=>[(11,i.v)]) (λi=>i.ob) (λi F=>True) (λi=>a.length+1 - i.U.length) (⟨l61,v62,ob62,O,d61,e61,by rw[n61];simpa using hr62⟩) wR wO wK wh (λi=>?_))
   simp only[ab,ae]
   have hle:=i.le
   refine QG<|wJ I<|QA (C2 I i.hr Q2)<|wE I<|QA (Qh I Q2)<|QA (Qu I I O)<|QA (QZ I I I)<|QE<|QC ?_
   refine QR I (λhc=>?_) (λhc=>?_)
   ·
    refine QQ<|QC<|QU<|QB<|wE I<|Qa I (Qw Q2) JR N3 I I (λb70=>?_)
    refine Yu (bs1:=[]) (ob:=i.ob) (k:=1) (sz:=1) (news:=[.int .i64 0]) I I Q2 JR N3 I Av i.hr (Src.row (off:=0) wk (λj v hv=>by rw[aN];show([.int .i64 0].toArray)[j]?=some v;rw[az];exact hv) rfl) O O (Yc wO) (λv71 ob71 hr71=>?_)
    refine wF I<|QE<|Qk ?_
    exact Ql (⟨i.U++[0],v71,ob71,by have:=wM hc;simp;omega,i.du.append (DG.cons wa wa (DG.nil _)),by rw[Xl,i.h];simp,by simpa[JY]using hr71⟩) (by have:=wM hc;show a.length+1 - (i.U++[0]).length<a.length+1 - i.U.length;rw[aJ,bp];omega) wS wK (λF h=>⟨h.1.1,trivial⟩)
   ·
    refine Qz ?_
    repeat (first | refine QW ?_ | refine QP wc ?_)
    refine QX<|QC<|QG ?_
    have hle0:=i.le
    have hU:i.U.length=a.length+1:=by have:=wN hc;omega
    obtain⟨U0,vU,obU,hle0,du0,hU0,hr0⟩:=i
    dsimp only at hU hle0 hU0 ⊢
    rw[hU]at hr0
    obtain⟨bu,cu,rest,rfl,rfl,hcu⟩:=hr0.big O
    refine QB<|wE I<|QA (Qh I Q2)<|wE I<|QA (Xw I I O)<|NI (n:=a.length+1 - (m+2)) (bytes:=8) wA wA Q2 JR N3 I Av O O (λbq=>?_)
    rw[show Xb [ah .i64 0] (a.length+1 - (m+2))=(aO (a.length+1 - (m+2)) (0:Int)).map JY by rw[Uj];simp[JY]]
    refine ZP (List.Perm.swap _ _ _)<|wH I<|QG<|wJ I<|QA (Qh I Q2)<|wE I<|QA (Xw I I O)<|QA (Xw I I O)<|wH I<|QU<|JU (ι:=N2 a l55 (1000000000 / (Qf b (m+1)+1)) (m+2)) [(8,_),(9,_),(10,_),(11,_),(12,_)] (λi2=>[(13,.int .i64 ((i2.k:Int) - 1))]) (λi2=>[(bu,.cells (i2.U.map JY++rest).toArray 3 (0,0)),(bq,.cells (i2.Q.map JY).toArray 3 (0,0))]) (λi2 F=>True) (λi2=>i2.k) (N2.start da db zb nb e55 f2 du0 hU hU0 O) wS ⟨(congrArg (λz:Int=>some (ah .i64 z)) (by simp only[N2.start];omega)),trivial⟩ wK wh (λi2=>?_)
    simp only[ab,ae]
    have hle2:=i2.le
    have lu2:=i2.lu
    have lq2:=i2.lq
    refine QG<|wJ I<|QA (QZ I I I)<|QE<|QC ?_
    refine QR I (λhc=>?_) (λhc=>?_)
    ·
     have hk0:0<i2.k:=by have:=wM hc;omega
     rw[show((i2.k:Int) - 1)=((i2.k - 1:Nat):Int) by omega]
     obtain⟨hst,hwe⟩:=i2.dN d55 zv l55l hk0
     have hz0:=i2.zero d55 l55l
     refine QQ<|QC<|QG<|QU<|wJ I<|wE I<|wE I<|XX (bs1:=_) rfl (List.Perm.refl _) (QD1 (rest:=rest) (U:=i2.U) (v:=l55) (j:=(i2.k - 1)) (m:=m) (rv:=⟨qv,m+2,cv⟩) lu2 O O (λF h9=>h9.1.1.1.2.1) hst) (λt89=>JQ _ (λw F hF h=>h.2) (λg89=>?_))
     obtain⟨t0,t1,t2,t3⟩:=g89
     rw[<-hwe]at t2 t3
     refine wH I<|wI<|wH I<|QG<|wI<|wH I<|QU<|JU (ι:=QHb i2.U l55 (i2.k - 1) t89) [(8,_),(9,_),(10,_),(11,_),(12,_),(13,_),(14,_)] (λi3=>[(15,.int .i64 (i3.br)),(16,.int .i64 ((i3.i:Nat):Int))]) (λi3=>[(bu,.cells (i3.U'.map JY++rest).toArray 3 (0,0)),(bq,.cells (i2.Q.map JY).toArray 3 (0,0))]) (λi3 F=>True) (λi3=>l55.length - i3.i) (⟨0,i2.U,0,ax _,Lg.start wa i2.du _ _⟩) wU wP wK wh (λi3=>?_)
     simp only[ab,ae]
     have hle3:=i3.le
     have lU3:=i3.h.len
     have br0:=i3.h.br0
     have br1:=i3.h.br1
     rw[h9]at br1
     refine QG<|wJ I<|wE I<|QA (QZ I I I)<|QE<|QC ?_
     refine QR I (λhc=>?_) (λhc=>?_)
     ·
      have hi3:i3.i<m+2:=by have:=wM hc;omega
      have bd:=QFU SH ⟨t0,t1⟩ (d55.Qf Jh i3.i) ⟨i3.h.br0,i3.h.br1⟩
      simp only[h9]at bd
      have bu3:=i3.h.dg.Qf Jh ((i2.k - 1)+i3.i)
      rw[h9]at bu3
      have hd3:Qf i3.U' ((i2.k - 1)+i3.i)=Qf i2.U ((i2.k - 1)+i3.i):=VA i3.h.hi (ay _)
      refine QQ<|QC<|QG<|QU<|wJ I<|wE I<|wE I<|QA (Q9 (n:=(m+2)) (i3.i) (λF h9=>(h9.1.1.1.1.1.2.1).1) rfl rfl Q2 JR O)<|QA (Jd (n:=(m+2)) ((i3.i)*1) (λF h9=>(h9.1.1.1.1.1.2.1).1) O rfl JR (XR (o:=l55) O))<|QA (PN I I O)<|wE I<|QA (Qu I I O)<|wH I<|wJ I<|wE I<|wE I<|QA (Qu I I O)<|QA (JG (i:=(i2.k - 1)+i3.i) rfl wA Q2 JR O)<|QA (V4 (c:=(i3.U').map JY++rest) (T':=3) rfl JR .here (WY (by first | omega | (simp only[aj];omega)))) ?_
      refine wE I<|QA (BO I I O O)<|QA (Xw I I O)<|wH I<|wJ I<|QA (Ro I I O O O)<|wH I<|QG<|wJ I<|QA (QZ I I I)<|QE<|QC ?_
      refine QR I (λhc=>?_) (λhc=>?_)
      ·
       have hx:=wM hc
       refine wJ I<|QA (Qu I I O)<|wH I<|QB<|wE I<|QA (Qu I I O)<|wH I<|QB<|wE I<|wE I<|wE I<|QA (Qu I I O)<|wE I<|QA (JG (i:=(i2.k - 1)+i3.i) rfl wA Q2 JR O)<|QO (vs:=[_]) I I I JR I .here (DX (by first | omega | (simp only[aj];omega)) (((Qf (i3.U') ((i2.k - 1)+i3.i) - (((t89*Qf l55 (i3.i))+i3.br)%1000000000))+1000000000))) wO<|QE<|Qk<|QC<|QB ?_
       refine wE I<|QA (Qu I I O)<|wF I<|QE ?_
       exact Ql (⟨i3.i+1,((i3.U').set ((i2.k - 1)+i3.i) (((Qf (i3.U') ((i2.k - 1)+i3.i) - (((t89*Qf l55 (i3.i))+i3.br)%1000000000))+1000000000))),((((t89*Qf l55 (i3.i))+i3.br) / 1000000000)+1),O,i3.h.step O (by rw[h9];omega) (by rw[h9];omega) (by rw[h9,<-hd3];omega)⟩) (by show l55.length - (i3.i+1)<l55.length - i3.i;omega) wW wK (λF h=>⟨h.1,trivial⟩)
      ·
       have hx:=wN hc
       refine QQ<|QC<|QB<|wE I<|wE I<|wE I<|QA (Qu I I O)<|wE I<|QA (JG (i:=(i2.k - 1)+i3.i) rfl wA Q2 JR O)<|QO (vs:=[_]) I I I JR I .here (DX (by first | omega | (simp only[aj];omega)) ((Qf (i3.U') ((i2.k - 1)+i3.i) - (((t89*Qf l55 (i3.i))+i3.br)%1000000000)))) wO<|QE<|Qk<|QC<|QB<|wE I<|QA (Qu I I O)<|wF I<|QE ?_
       exact Ql (⟨i3.i+1,((i3.U').set ((i2.k - 1)+i3.i) ((Qf (i3.U') ((i2.k - 1)+i3.i) - (((t89*Qf l55 (i3.i))+i3.br)%1000000000)))),(((t89*Qf l55 (i3.i))+i3.br) / 1000000000),O,i3.h.step O (by rw[h9];omega) (by rw[h9];omega) (by rw[h9,<-hd3];omega)⟩) (by show l55.length - (i3.i+1)<l55.length - i3.i;omega) wW wK (λF h=>⟨h.1,trivial⟩)
     ·
      have hi3:i3.i=m+2:=by have:=wN hc;omega
      refine Qz ?_
      repeat (first | refine QW ?_ | refine QP wc ?_)
      refine QX<|QC<|QG ?_
      have hs3:Lg B9 i2.U l55 (i2.k - 1) t89 (m+2) i3.U' i3.br:=by have:=i3.h;rw[hi3]at this;exact this
      have hd3:Qf i3.U' ((i2.k - 1)+(m+2))=Qf i2.U ((i2.k - 1)+(m+2)):=VA hs3.hi (ay _)
      have hS:=hs3.stop SH l55l O
      rw[<-hd3]at hS
      have bu4:=i2.du.Qf Jh ((i2.k - 1)+(m+2))
      rw[h9,<-hd3]at bu4
      have htp:=hS.tp
      have hz1:dv B9 (i2.U.drop ((i2.k - 1)+(m+2)+1))=0:=by rw[show(i2.k - 1)+(m+2)+1=i2.k+(m+2) by omega];exact hz0
      refine QB<|wE I<|wE I<|wE I<|QA (Qu I I O)<|wE I<|wE I<|wE I<|QA (Qu I I O)<|QA (JG (i:=(i2.k - 1)+(m+2)) I wA Q2 JR O)<|QA (V4 (c:=(i3.U').map JY++rest) (T':=3) rfl JR .here (WY (by first | omega | (simp only[aj];omega))))<|wE I<|QA (Xw I I O)<|QA (JG (i:=(i2.k - 1)+(m+2)) I wA Q2 JR O)<|QO (vs:=[_]) I I I JR I .here (DX (by first | omega | (simp only[aj];omega)) ((Qf (i3.U') ((i2.k - 1)+(m+2)) - i3.br))) wO<|wG<|QG<|wJ I<|wE I<|wE I<|QA (Qu I I O)<|QA (JG (i:=(i2.k - 1)+(m+2)) I wA Q2 JR O) ?_
      refine QA (V4 (c:=(((i3.U').set ((i2.k - 1)+(m+2)) ((Qf (i3.U') ((i2.k - 1)+(m+2)) - i3.br)))).map JY++rest) (T':=3) rfl JR .here (WY (by first | omega | (simp only[aj];omega))))<|QA (QZ I I I)<|QE<|QC ?_
      refine QR I (λhc=>?_) (λhc=>?_)
      ·
       have hneg:Qf i3.U' ((i2.k - 1)+(m+2)) - i3.br<0:=by have:=wM hc;rw[htp]at this;exact this
       refine wJ I<|QA (Xw I I O)<|wH I<|wI<|wH I<|QG<|wI<|wH I<|QU<|JU (ι:=QHl (i3.U'.set ((i2.k - 1)+(m+2)) (Qf i3.U' ((i2.k - 1)+(m+2)) - i3.br)) l55 (i2.k - 1) (m+2)) [(8,_),(9,_),(10,_),(11,_),(12,_),(13,_),(14,_)] (λi4=>[(19,.int .i64 (i4.c)),(20,.int .i64 ((i4.i:Nat):Int))]) (λi4=>[(bu,.cells (i4.U'.map JY++rest).toArray 3 (0,0)),(bq,.cells (i2.Q.map JY).toArray 3 (0,0))]) (λi4 F=>True) (λi4=>m+2 - i4.i) (⟨0,_,0,ax _,NA.start hS.dg⟩) wU wP wK wh (λi4=>?_)
       simp only[ab,ae]
       have hle4:=i4.le
       have lU4:=i4.h.len
       rw[aj]at lU4
       have c40:=i4.h.c0
       have c41:=i4.h.c1
       refine QG<|wJ I<|wE I<|QA (QZ I I I)<|QE<|QC ?_
       refine QR I (λhc=>?_) (λhc=>?_)
       ·
        have hi4:i4.i<m+2:=by have:=wM hc;omega
        have bu5:=i4.h.Qf SH hi4
        have bv5:=d55.Qf Jh i4.i
        rw[h9]at bu5 bv5
        have hd4:=VA i4.h.hi (ay _)
        refine QQ<|QC<|QG<|QU<|QG<|JO wK mixed y0<|QK (QD I)<|QK (QD I)<|QK (QD I)<|QK (Qu I I O)<|QK (JG (i:=(i2.k - 1)+i4.i) rfl wA Q2 JR O)<|QK (V4 (c:=(i4.U').map JY++rest) (T':=3) rfl JR .here (WY (by first | omega | (simp only[aj];omega))))<|QK (QD I)<|QK (QD I)<|QK (Q9 (n:=(m+2)) (i4.i) (λF h9=>(h9.1.1.1.1.1.1.2.1).1) rfl rfl Q2 JR O)<|QK (Jd (n:=(m+2)) ((i4.i)*1) (λF h9=>(h9.1.1.1.1.1.1.2.1).1) O rfl JR (XR (o:=l55) O))<|QK (Qu I I O)<|QK (QD I)<|QK (Qu I I O)<|QK (QF I)<|Q6<|QC<|wI<|wE I ?_
        refine wE I<|wE I<|QA (Qu I I O)<|wE I<|QA (BO I I O O)<|QA (JG (i:=(i2.k - 1)+i4.i) rfl wA Q2 JR O)<|QO (vs:=[_]) I I I JR I .here (DX (by first | omega | (simp only[aj];omega)) ((((Qf (i4.U') ((i2.k - 1)+i4.i)+Qf l55 (i4.i))+i4.c)%1000000000))) wO<|wG<|QB<|wE I<|QA (Ro I I O O O)<|wF I<|QE<|Qk<|QC<|QB<|wE I<|QA (Qu I I O)<|wF I<|QE ?_
        exact Ql (⟨i4.i+1,((i4.U').set ((i2.k - 1)+i4.i) ((((Qf (i4.U') ((i2.k - 1)+i4.i)+Qf l55 (i4.i))+i4.c)%1000000000))),(((Qf (i4.U') ((i2.k - 1)+i4.i)+Qf l55 (i4.i))+i4.c) / 1000000000),O,i4.h.step hi4 (by rw[aj];omega) (by rw[h9];omega) O (by rw[h9,<-hd4];omega)⟩) (by show m+2 - (i4.i+1)<m+2 - i4.i;omega) wW wK (λF h=>⟨h.1,trivial⟩)
       ·
        have hi4:i4.i=m+2:=by have:=wN hc;omega
        refine Qz ?_
        repeat (first | refine QW ?_ | refine QP wc ?_)
        refine QX<|QC ?_
        have hA4:Ig.NA B9 (i3.U'.set ((i2.k - 1)+(m+2)) (Qf i3.U' ((i2.k - 1)+(m+2)) - i3.br)) l55 (i2.k - 1) (m+2) (m+2) i4.U' i4.c:=by have:=i4.h;rw[hi4]at this;exact this
        have hd5:Qf i4.U' ((i2.k - 1)+(m+2))=Qf i3.U' ((i2.k - 1)+(m+2)) - i3.br:=by rw[VA hA4.hi (ay _)];exact htp
        have hS5:Lf B9 i2.U l55 (i2.k - 1) (m+2) t89 (i3.U'.set ((i2.k - 1)+(m+2)) (Qf i3.U' ((i2.k - 1)+(m+2)) - i3.br)) (Qf i4.U' ((i2.k - 1)+(m+2))):=by rw[hd5];exact hS
        obtain⟨g1,g2,g3,g4,g5⟩:=hA4.QEo SH hS5 i2.du d55 l55l hz1 O (by rw[hd5];exact hneg) t2
        have lU4:=i4.h.len
        rw[aj]at lU4
        have b5:Qf i4.U' ((i2.k - 1)+(m+2))=Qf i3.U' ((i2.k - 1)+(m+2)) - i3.br:=hd5
        refine QB<|wE I<|wE I<|wE I<|QA (Qu I I O)<|wE I<|wE I<|wE I<|QA (Qu I I O)<|QA (JG (i:=(i2.k - 1)+(m+2)) I wA Q2 JR O)<|QA (V4 (c:=(i4.U').map JY++rest) (T':=3) rfl JR .here (WY (by first | omega | (simp only[aj];omega))))<|wE I<|QA (Qu I I O)<|QA (JG (i:=(i2.k - 1)+(m+2)) I wA Q2 JR O)<|QO (vs:=[_]) I I I JR I .here (DX (by first | omega | (simp only[aj];omega)) ((Qf (i4.U') ((i2.k - 1)+(m+2))+i4.c))) wO<|wG<|QB<|wE I<|wE I<|wE I<|QA (JG (i:=(i2.k - 1)) I wA Q2 JR O)<|QO (vs:=[_]) I I I JR I .u1 (S7 (by first | omega | (simp only[aj];omega)) ((t89 - 1))) wO<|QE<|Qk ?_
        refine QC<|QB<|wE I<|QA (Xw I I O)<|wF I<|QE ?_
        exact Ql (i2.next hk0 O (t:=t89 - 1) g4 O g1 g2 g3 g5) (by show i2.k - 1<i2.k;omega) wT wK (λF h=>⟨h.1.1.1.1,trivial⟩)
      ·
       have hneg:0<=Qf i3.U' ((i2.k - 1)+(m+2)) - i3.br:=by have:=wN hc;rw[htp]at this;omega
       obtain⟨g1,g2,g3⟩:=hS.QEo SH O hneg (by rw[h9];omega) t3
       refine QQ<|QC<|QB<|wE I<|wE I<|wE I<|QA (JG (i:=(i2.k - 1)) I wA Q2 JR O)<|QO (vs:=[_]) I I I JR I .u1 (S7 (by first | omega | (simp only[aj];omega)) (t89)) wO<|QE<|Qk<|QC<|QB<|wE I<|QA (Xw I I O)<|wF I<|QE ?_
       exact Ql (i2.next hk0 O (t:=t89) t0 t1 g1 g2 g3 hS.len) (by show i2.k - 1<i2.k;omega) wT wK (λF h=>⟨h.1.1.1,trivial⟩)
    ·
     have hk0:i2.k=0:=by have:=wN hc;omega
     refine Qz ?_
     repeat (first | refine QW ?_ | refine QP wc ?_)
     refine QX<|QC<|QG ?_
     obtain⟨s1,s2⟩:=i2.stop hk0 db da e55 f2 hb d55 l55l
     have lt40:=YQ (i2.U.take (m+2))
     rw[ao]at lt40
     refine MK (b:=bu) .here<|MK (b:=bq) .here<|JO wK mixed y0<|QK (QD I)<|QK (QD I)<|QK (N8 (m+2) rfl rfl rfl Q2 JR O)<|QN I (λw F hF h9=>PT hF (r:=⟨some ⟨bu,0,none⟩,m+2,cu⟩) ((J7.own h9.1.2 i2.lu hcu).take O) (by rw[ao];omega)) (λc196=>QK (QD I)<|QK (Q9 (n:=1) (0) (λF h9=>(Qy.of (n:=1) (sz:=1) h9.1.1.1.1.1.1.2 I)) I wA Q2 JR O)<|QK (Jd (n:=1) ((0)*1) (λF h9=>(Qy.of (n:=1) (sz:=1) h9.1.1.1.1.1.1.2 I)) O rfl JR I)<|QN I (λw F hF h9=>xf hF (a:=JH (i2.U.take (m+2))) (ra:=⟨some ⟨bu,0,none⟩,(JH (i2.U.take (m+2))).length,cu⟩) h9.2 ((i2.du.take _).JH) O (f2) (f3)) (λc200=>QK (QD I)<|QK (QT I I)<|QK (QT I I)<|QK (QF I)<|QK (QF I)<|Q6<|QC<|wJ I<|QI I (λw F hF h9=>PT hF (r:=⟨some ⟨bq,0,none⟩,a.length+1 - (m+2),a.length+1 - (m+2)⟩) (J7.QID h9.1.1.2 i2.lq (ay _)) O) (λc204=>wE I<|wF I<|wF I ?_)))
     refine wG<|QY ?_
     exact JZ (((⟨some ⟨bq,0,none⟩,(JH i2.Q).length,a.length+1 - (m+2)⟩,JH i2.Q),(c200.1.1,c200.1.2)):(Sr×List Int)×(Sr×List Int)) I (wC I I) (rfl) (λF h9=>⟨⟨h9.2,i2.dq.JH,ZW _,by show dv B9 (JH i2.Q)=_;rw[Xe];exact s1⟩,h9.1.2.1,h9.1.2.2.1,h9.1.2.2.2.1,cx O (by rw[<-s2,<-Xe];exact h9.1.2.2.2.2.2.2.1) h9.1.2.2.2.2.1 h9.1.2.2.2.2.2.1⟩)
section
variable{P:Program}{N:Nat}{m:Sl}{S:World->Prop}{ty:TypeId}
def dT(P:Program)(T:TypeId):Bool:=match P.underlying T with
 |some .bool=>true
 |_=>false
theorem QFm(h:dT P T=true):P.underlying T=some .bool:=by
 unfold dT at h;split at h
 ·assumption
 ·cases h
theorem yP(hT:dT P T=true)(a b:Bool)(w:World):(Op.equal T (.bool a) (.bool b)).run P w = .ok (a==b) w:=by
 have e:∃n,Op.maxDepth=n+1:=⟨Op.maxDepth - 1,wa⟩
 obtain⟨n,e⟩:=e
 unfold Op.equal
 rw[e]
 unfold Op.equalIn
 simp[run_underlying (QFm hT)]
theorem QGL{yT:TypeId}{x y:Operand}{a b:Bool}(hT:dT P T=true)(hx:ev m x=some (.bool a))(hy:ev m y=some (.bool b)):Qt P N m S (.binOp .eql T x y yT) ty (.bool (a==b)):=λs w _ _ _ _ ha _=>by
 simp only[execOp,ha.ev hx,ha.ev hy,eqGuard,binOp,bX,bW,bG,yP hT]
 rfl
theorem QGK{yT:TypeId}{x y:Operand}{a b:Bool}(hT:dT P T=true)(hx:ev m x=some (.bool a))(hy:ev m y=some (.bool b)):Qt P N m S (.binOp .neq T x y yT) ty (.bool (!(a==b))):=λs w _ _ _ _ ha _=>by
 simp only[execOp,ha.ev hx,ha.ev hy,eqGuard,binOp,bX,bW,bG,yP hT]
 rfl
end
theorem QCo:dT Tryz.prog 4=true:=y0
theorem QFk{x y:Int}(h:YP x y>=0):y<=x:=by
 unfold YP at h;split at h
 ·omega
 ·split at h<;>omega
theorem cw{x:Ri}(hF:Fits F w)(hx:H5 F x zx)(hz:sz zx<=1000000):NJ Tryz.prog 192 [x.v] w F (-zx):=by
 obtain⟨xn,⟨xq,xm,xc⟩,xl⟩:=x
 have px:=hx.p
 have lx:=px.len
 have kx:=hx.1.2.1
 have vx:=px.v0
 dsimp only at px lx kx vx
 dsimp only[Ri.v]
 have eqn : -zx=N6 (!xn) xl:=by rw[px.e];cases xn<;>simp[N6]
 refine QS.intro (G:=λF=>H5 F ⟨xn,⟨xq,xm,xc⟩,xl⟩ zx) Tryz.func192 rfl wc rfl rfl hF (λF' hF'=>hx.le hF')<|wI<|Qo rfl (vs:=[_,_]) rfl (λb1=>Qb K9 (λb2=>wG<|wI<|QA (QH rfl Ey S2)<|QA (Qg rfl S2 .u1 .h1)<|QA (YN rfl)<|QA (QH rfl VD Jf)<|QA (Qg rfl Jf .u1 (.skip .h1))<|QI rfl (λw F hF hx=>WU hF (r:=⟨xq,xm,xc⟩) (l:=xl) (neg:=!xn) hx.1 (px.dg) O) (λc8=>QO (vs:=[_,_]) rfl rfl rfl Jq rfl .here .h2 wP<|wG<|QY ?_)))
 exact QV (c8) rfl (.JW (c:=[_,_]) I Jq .here .nil) (rfl) (λF h9=>(by rw[eqn];exact h9.2))
theorem DV{x y:Ri}{zy:Int}(hF:Fits F w)(hx:H5 F x zx)(hy:H5 F y zy)(hzx:sz zx<=1000000)(hzy:sz zy<=1000000):NJ Tryz.prog 101 [x.v,y.v] w F (zx*zy):=by
 obtain⟨xn,⟨xq,xm,xc⟩,xl⟩:=x
 have px:=hx.p
 have lx:=px.len
 have kx:=hx.1.2.1
 have vx:=px.v0
 dsimp only at px lx kx vx
 obtain⟨yn,⟨yq,ym,yc⟩,yl⟩:=y
 have py:=hy.p
 have ly:=py.len
 have ky:=hy.1.2.1
 have vy:=py.v0
 dsimp only at py ly ky vy
 dsimp only[Ri.v]
 refine QS.intro (G:=λF=>H5 F ⟨xn,⟨xq,xm,xc⟩,xl⟩ zx/\H5 F ⟨yn,⟨yq,ym,yc⟩,yl⟩ zy) Tryz.func101 rfl wc rfl rfl hF (λF' hF'=>⟨hx.le hF',hy.le hF'⟩)<|wI<|Qo rfl (vs:=[_,_]) rfl (λb2=>Qo rfl (vs:=[_,_]) rfl (λb3=>Qb K9 (λb4=>wG<|QG<|JO (.cons _ wm) mixed y0<|QK (QH rfl Ey S2)<|QK (Qg rfl S2 .u1 .h1)<|QK (QH rfl Ey S2)<|QK (Qg rfl S2 .here .h1)<|QK (QGK QCo rfl rfl)<|QK (QH rfl VD Jf)<|QK (Qg rfl Jf .u1 (.skip .h1))<|QK (QH rfl VD Jf)<|QK (Qg rfl Jf .here (.skip .h1)) ?_)))
 refine QN I (λw F hF h9=>U2 hF (a:=xl) (b:=yl) (ra:=⟨xq,xm,xc⟩) (rb:=⟨yq,ym,yc⟩) h9.1.1 (h9.2.1) (px.dg) (py.dg) O (by first | omega | (simp;done) | (simp;omega))) (λc14=>?_);rcases c14 with ⟨v14,l14⟩;dsimp only
 refine Y5 _ (λw F hF ⟨⟨hx,hy⟩,⟨h14,h14p⟩⟩=>av h14.2 h14p) (λp14=>?_)
 have eqn:zx*zy=N6 (!(xn==yn)) l14:=by
  have e14:=p14.2.2.1
  rw[px.e,py.e];unfold N6;rw[e14];cases xn<;>cases yn<;>simp[ef,Int.neg_mul]
 have m14:=p14.2.2.2.2
 refine QN I (λw F hF h9=>WU hF (r:=v14) (l:=l14) (neg:=!(xn==yn)) h9.2.1 (p14.2.1) O) (λc15=>JV (vs:=[_,_]) I I I Jq I .here wm (λ_ h=>h.1.1) .h2 wP<|Q6<|QC<|QY ?_)
 exact QV (c15) rfl (.JW (c:=[_,_]) I Jq .here .nil) (rfl) (λF h9=>(by rw[eqn];exact h9.2))
theorem QCb{x y:Ri}{zy:Int}(hF:Fits F w)(hx:H5 F x zx)(hy:H5 F y zy)(hzx:sz zx<=1000000)(hzy:sz zy<=1000000):NJ Tryz.prog 154 [x.v,y.v] w F (zx+zy):=by
 obtain⟨xn,⟨xq,xm,xc⟩,xl⟩:=x
 have px:=hx.p
 have lx:=px.len
 have kx:=hx.1.2.1
 have vx:=px.v0
 dsimp only at px lx kx vx
 obtain⟨yn,⟨yq,ym,yc⟩,yl⟩:=y
 have py:=hy.p
 have ly:=py.len
 have ky:=hy.1.2.1
 have vy:=py.v0
 dsimp only at py ly ky vy
 dsimp only[Ri.v]
 refine QS.intro (G:=λF=>H5 F ⟨xn,⟨xq,xm,xc⟩,xl⟩ zx/\H5 F ⟨yn,⟨yq,ym,yc⟩,yl⟩ zy) Tryz.func154 rfl wc rfl rfl hF (λF' hF'=>⟨hx.le hF',hy.le hF'⟩)<|wI<|Qo rfl (vs:=[_,_]) rfl (λb2=>Qo rfl (vs:=[_,_]) rfl (λb3=>Qb K9 (λb4=>wG<|QG<|wI<|QA (QH rfl Ey S2)<|QA (Qg rfl S2 .u2 .h1)<|QA (QH rfl Ey S2)<|QA (Qg rfl S2 .u1 .h1)<|QA (QGL QCo rfl rfl)<|QE<|QC ?_)))
 refine QR I (λhc=>?_) (λhc=>?_)
 ·
  have hne:xn=yn:=by simpa using hc
  refine QG<|JO (.cons _ wm) mixed y0<|QK (QH I Ey S2)<|QK (Qg I S2 .u1 .h1)<|QK (QH I VD Jf)<|QK (Qg I Jf .u1 (.skip .h1))<|QK (QH I VD Jf)<|QK (Qg I Jf .here (.skip .h1)) ?_
  refine QN I (λw F hF h9=>pE hF (a:=xl) (b:=yl) (ra:=⟨xq,xm,xc⟩) (rb:=⟨yq,ym,yc⟩) h9.1.1 (h9.2.1) (px.dg) (py.dg) O (by first | omega | (simp;done) | (simp;omega))) (λc16=>?_);rcases c16 with ⟨v16,l16⟩;dsimp only
  refine Y5 _ (λw F hF ⟨⟨hx,hy⟩,⟨h16,h16p⟩⟩=>av h16.2 h16p) (λp16=>?_)
  have eqn:zx+zy=N6 xn l16:=by
   have e16:=p16.2.2.1
   rw[px.e,py.e,hne];unfold N6;rw[e16];cases yn<;>simp<;>omega
  have m16:=p16.2.2.2
  refine QN I (λw F hF h9=>WU hF (r:=v16) (l:=l16) (neg:=xn) h9.2.1 (p16.2.1) O) (λc17=>JV (vs:=[_,_]) I I I Jq I .here wm (λ_ h=>h.1.1) .h2 wP<|Q6<|QC<|QY ?_)
  exact QV (c17) rfl (.JW (c:=[_,_]) I Jq .here .nil) (rfl) (λF h9=>(by rw[eqn];exact h9.2))
 ·
  have hne:xn=!yn:=by cases xn<;>cases yn<;>simp_all
  refine QQ<|QC<|QG<|wI<|QA (QH I VD Jf)<|QA (Qg I Jf .u2 (.skip .h1))<|QA (QH I VD Jf)<|QA (Qg I Jf .u1 (.skip .h1))<|QI I (λw F hF h9=>Tp hF (a:=xl) (b:=yl) (ra:=⟨xq,xm,xc⟩) (rb:=⟨yq,ym,yc⟩) h9.1.1 (h9.2.1) (px.dg) (py.dg) (px.nz) (py.nz) O O) (λ_=>QA (QZ I I I)<|QE<|QC ?_)
  refine QR I (λhc=>?_) (λhc=>?_)
  ·
   have hle:dv B9 yl<=dv B9 xl:=QFk (wM hc)
   have hll:=SB py.dg px.dg py.nz hle
   refine QG<|JO (.cons _ wm) mixed y0<|QK (QH I Ey S2)<|QK (Qg I S2 .u1 .h1)<|QK (QH I VD Jf)<|QK (Qg I Jf .u1 (.skip .h1))<|QK (QH I VD Jf)<|QK (Qg I Jf .here (.skip .h1)) ?_
   refine QN I (λw F hF h9=>Cu hF (a:=xl) (b:=yl) (ra:=⟨xq,xm,xc⟩) (rb:=⟨yq,ym,yc⟩) h9.1.1.1 (h9.1.2.1) (px.dg) (py.dg) O O (hle)) (λc30=>?_);rcases c30 with ⟨v30,l30⟩;dsimp only
   refine Y5 _ (λw F hF ⟨⟨⟨hx,hy⟩,_⟩,⟨h30,h30p⟩⟩=>av h30.2 h30p) (λp30=>?_)
   have eqn:zx+zy=N6 xn l30:=by
    have e30:=p30.2.2.1
    rw[px.e,py.e,hne];unfold N6;rw[e30];cases yn<;>simp<;>omega
   have m30:=p30.2.2.2
   refine QN I (λw F hF h9=>WU hF (r:=v30) (l:=l30) (neg:=xn) h9.2.1 (p30.2.1) O) (λc31=>JV (vs:=[_,_]) I I I Jq I .here wm (λ_ h=>h.1.1) .h2 wP<|Q6<|QC<|QY ?_)
   exact QV (c31) rfl (.JW (c:=[_,_]) I Jq .here .nil) (rfl) (λF h9=>(by rw[eqn];exact h9.2))
  ·
   have hle:dv B9 xl<=dv B9 yl:=QAj (wN hc)
   have hll:=SB px.dg py.dg px.nz hle
   refine QQ<|QC<|QG<|JO (.cons _ wm) mixed y0<|QK (QH I Ey S2)<|QK (Qg I S2 .here .h1)<|QK (QH I VD Jf)<|QK (Qg I Jf .here (.skip .h1))<|QK (QH I VD Jf)<|QK (Qg I Jf .u1 (.skip .h1)) ?_
   refine QN I (λw F hF h9=>Cu hF (a:=yl) (b:=xl) (ra:=⟨yq,ym,yc⟩) (rb:=⟨xq,xm,xc⟩) h9.1.2.1 (h9.1.1.1) (py.dg) (px.dg) O O (hle)) (λc38=>?_);rcases c38 with ⟨v38,l38⟩;dsimp only
   refine Y5 _ (λw F hF ⟨⟨⟨hx,hy⟩,_⟩,⟨h38,h38p⟩⟩=>av h38.2 h38p) (λp38=>?_)
   have eqn:zx+zy=N6 yn l38:=by
    have e38:=p38.2.2.1
    rw[px.e,py.e,hne];unfold N6;rw[e38];cases yn<;>simp<;>omega
   have m38:=p38.2.2.2
   refine QN I (λw F hF h9=>WU hF (r:=v38) (l:=l38) (neg:=yn) h9.2.1 (p38.2.1) O) (λc39=>JV (vs:=[_,_]) I I I Jq I .here wm (λ_ h=>h.1.1) .h2 wP<|Q6<|QC<|QY ?_)
   exact QV (c39) rfl (.JW (c:=[_,_]) I Jq .here .nil) (rfl) (λF h9=>(by rw[eqn];exact h9.2))
theorem QDJ(x y:Int):aE y (x%y)=aE x y:=by
 rw[Int.gcd_comm y,Int.emod_def]
 first | rw[Int.gcd_sub_mul_left_left] | rw[Int.gcd_sub_mul_right_left] | rw[Int.gcd_sub_mul_left] | simp
theorem dP(hF:Fits F w)(hA:J7 F ra a)(hB:J7 F rb b)(da:DG B9 a)(db:DG B9 b)(za:NZ a)(zb:NZ b)(la:a.length<=10000000)(lb:b.length<=10000000):
  QS Tryz.prog 98 [ra.v,rb.v] w F (λ(c:Sr×List Int)=>.slice c.1.q c.1.n c.1.cap) (λc F=>J7 F c.1 c.2/\DG B9 c.2/\NZ c.2/\dv B9 c.2=(aE (dv B9 a) (dv B9 b):Int)):=by
 refine QS.intro (G:=λF=>J7 F ra a/\J7 F rb b) Tryz.func98 rfl wc rfl rfl hF (λF' hF'=>⟨hA.le hF',hB.le hF'⟩)<|wI<|wH rfl<|QG<|QU<|JU (ι:=QHj (dv B9 a) (dv B9 b)) [] (λi=>[(0,.slice i.ra.q i.ra.n i.ra.cap),(1,.slice i.rb.q i.rb.n i.rb.cap)]) (λi=>[]) (λi F=>J7 F i.ra i.a/\J7 F i.rb i.b) (λi=>(dv B9 i.b).toNat) (⟨ra,rb,a,b,da,db,za,zb,la,lb,hB.2.1,rfl⟩) trivial wP wK wi (λi=>?_)
 simp only[ab,ae]
 have hla:=i.la
 have hlb:=i.lb
 have hnb:=i.nb
 refine QG<|wJ I<|QA (Qh I Q2)<|QA (QZ I I I)<|QE<|QC ?_
 refine QR I (λhc=>?_) (λhc=>?_)
 ·
  have hpos:0<dv B9 i.b:=by
   have h1:=Vs SH i.db i.zb
   have h2:=Q8 Jh i.db
   rw[<-List.length_eq_zero_iff]at h1
   have:=wM hc
   omega
  have hm0:=aZ (dv B9 i.a) (Int.ne_of_gt hpos)
  have hm1:=aW (dv B9 i.a) hpos
  refine QQ<|QC<|QU<|wJ rfl<|wE rfl<|QI rfl (λw F hF h9=>U5 hF (a:=i.a) (b:=i.b) (ra:=i.ra) (rb:=i.rb) h9.2.1 (h9.2.2) (i.da) (i.db) (i.za) (i.zb) (hpos) O O) (λc13=>wE rfl<|QA (QT rfl rfl)<|QA (QT rfl rfl)<|wF rfl<|wH rfl<|XQ _ (λw F hF h=>av h.2.2.2 h.2.2.1.2.1) (λq13=>?_))
  obtain⟨q13,n13⟩:=q13
  refine QB<|wE I<|wE I<|wF I<|wF I<|QE<|Qk ?_
  exact Ql (⟨i.rb,c13.2.1,i.b,c13.2.2,i.db,q13.1,i.zb,q13.2.1,i.lb,by have:=SB q13.1 i.db q13.2.1 (by rw[q13.2.2];omega);omega,n13,by rw[q13.2.2,QDJ];exact i.h⟩) (by show(dv B9 c13.2.2).toNat<(dv B9 i.b).toNat;rw[q13.2.2];omega) wP wK (λF h9=>⟨⟨h9.1.1.1,h9.1.1.2⟩,⟨h9.1.2.2,h9.2.2.1⟩⟩)
 ·
  have hz:i.b=[]:=by
   have:=wN hc
   exact ai O
  refine Qz ?_
  repeat (first | refine QW ?_ | refine QP wc ?_)
  refine QX<|QC<|wJ I<|wH I<|QY ?_
  exact QV ((i.ra,i.a):Sr×List Int) rfl (wB I) (rfl) (λF h9=>⟨h9.2.1,i.da,i.za,by have e:=i.h;rw[hz,j0,Int.gcd_zero_right]at e;have:=Q8 Jh i.da;show dv B9 i.a=_;omega⟩)
theorem S5{x:Int}{least:Nat}(hF:Fits F w)(h0:0<=x)(hn:x<=9223372036854775807)(hl:least<=1000):Qe Tryz.prog 104 [.int .i64 x,.int .i64 (least:Int)] w F (tx (S3 x.toNat least)):=by
 have:=QBK (n:=x.toNat) (least:=least) hF O hl
 rw[aV h0]at this;exact this
theorem pB{x:Ri}(hF:Fits F w)(hx:H5 F x zx)(hz:sz zx<=1000000):Qe Tryz.prog 193 [x.v] w F (tx (Zf zx)):=by
 obtain⟨xn,⟨xq,xm,xc⟩,xl⟩:=x
 have px:=hx.p
 have lx:=px.len
 have kx:=hx.1.2.1
 have vx:=px.v0
 dsimp only at px lx kx vx
 dsimp only[Ri.v]
 have h9:B9=1000000000:=rfl
 refine QS.intro (G:=λF=>H5 F ⟨xn,⟨xq,xm,xc⟩,xl⟩ zx) Tryz.func193 rfl wc rfl rfl hF (λF' hF'=>hx.le hF')<|wI<|Qo rfl (vs:=[_,_]) rfl (λb1=>wH rfl<|QG<|wI<|QA (QH rfl VD Jf)<|QA (Qg rfl Jf .here (.skip .h1))<|QA (Qh rfl Q2)<|QA (QZ rfl rfl rfl)<|QE<|QC ?_)
 refine QR I (λhc=>?_) (λhc=>?_)
 ·
  have hx0:zx=0:=(px.zero).1 (ai (by have:=hc;simp at this;omega))
  refine wI<|wH I<|QY ?_
  exact wL I I (by rw[hx0,XV wa];exact congrArg (λl=>tx l) Yr) wh
 ·
  have hl0:0<xl.length:=by
   rcases aC xm with g | g
   ·rw[g]at hc;simp at hc
   ·omega
  obtain⟨d1,d2⟩:=De px.dg px.nz hl0
  have b0:=px.dg.Qf Jh (xl.length - 1)
  rw[h9]at b0
  refine QQ<|QC<|wI<|QA (QH I VD Jf)<|QA (Qg I Jf .here (.skip .h1))<|QA (QH I VD Jf)<|QA (Qg I Jf .here (.skip .h1))<|QA (Qh I Q2)<|QA (Xw I I O)<|QA (Q9 (n:=xm) (xl.length - 1) (λF hx=>(hx.1).1) rfl wA Q2 JR O)<|QA (Jd (n:=xm) ((xl.length - 1)*1) (λF hx=>(hx.1).1) O rfl JR (XR (o:=xl) O))<|QI I (λw F hF hx=>S5 hF (least:=1) O O O) (λ_=>wH I<|QG<|wI<|QA (QH I VD Jf)<|QA (Qg I Jf .here (.skip .h1))<|QA (Qh I Q2)<|QA (Xw I I O)<|wF I<|QE ?_)
  refine QC<|QU<|ZK (ι:=cH xl) [(1,_)] (λi=>[(3,tx i.s),(4,.int .i64 ((i.k:Int) - 1))]) (λi=>i.k) (cH.start px.dg px.nz hl0) wO ⟨rfl,(congrArg (λz:Int=>some (ah .i64 z)) (by simp only[cH.start];omega)),trivial⟩ (λi=>?_)
  simp only[ab,ae]
  have hle:=i.le
  have hsl:=i.sl
  refine QG<|wJ I<|QA (QZ I I I)<|QE<|QC ?_
  refine QR I (λhc=>?_) (λhc=>?_)
  ·
   have hk0:0<i.k:=by have:=wM hc;omega
   have b1:=px.dg.Qf Jh (i.k - 1)
   rw[h9]at b1
   have ln:=NG (n:=(Qf xl (i.k - 1)).toNat) O
   refine QQ<|QC<|QG<|QU<|QB<|wE I<|QA (QH I VD Jf)<|QA (Qg I Jf .here (.skip .h1))<|wE I<|QA (Q9 (n:=xm) (i.k - 1) (λF h9=>(h9.1.1).1) rfl wA Q2 JR O)<|QA (Jd (n:=xm) ((i.k - 1)*1) (λF h9=>(h9.1.1).1) O rfl JR (XR (o:=xl) O))<|QI I (λw F hF h9=>S5 hF (least:=9) O O O) (λ_=>QA (KF I I O)<|wF I<|QE<|Qk<|QC<|QB<|wE I<|QA (Xw I I O)<|wF I<|QE ?_)
   exact Ql (i.next px.dg hk0) (by show i.k - 1<i.k;omega) ⟨rfl,rfl,(congrArg (λz:Int=>some (ah .i64 z)) (by simp only[cH.next];omega)),trivial⟩ wK wj
  ·
   have hk0:i.k=0:=by have:=wN hc;omega
   have hi:=i.h
   rw[hk0,aT]at hi
   have ha:=px.abs
   refine Qz ?_
   repeat (first | refine QW ?_ | refine QP wc ?_)
   refine QX<|QC<|QG<|wI<|QA (QH I Ey S2)<|QA (Qg I S2 .here .h1)<|QE<|QC ?_
   refine QR I (λhc=>?_) (λhc=>?_)
   ·
    have hneg:zx<0:=by have:=px.neg;rw[hc]at this;exact wM this.symm
    refine wJ I<|QA (KF I I wg)<|wH I<|QY ?_
    exact wL I I (by rw[Kh hneg,hi];exact congrArg (λn=>tx (45::aD n)) O) wh
   ·
    have hneg:¬zx<0:=by have:=px.neg;rw[hc]at this;exact wN this.symm
    refine QQ<|QC<|wJ I<|wH I<|QY ?_
    exact wL I I (by rw[XV O,hi];exact congrArg (λn=>tx (aD n)) O) wh
theorem QFh{n d:Int}(h:0<d){neg:Bool}{l p:List Int}(hn:Gv neg l n)(hp:dv B9 p=dv B9 l / (aE n d:Int)):N6 neg p=(ag n d).num:=by
 rw[(WA h).1]
 have hg:(0:Int)<(aE n d:Int):=by have:=HZ (x:=n) h;omega
 obtain⟨k,hk⟩:=bP (a:=n) (b:=d)
 have e:=hn.e
 have hv:=hn.v0
 unfold N6 at e ⊢
 rw[hp]
 cases neg with
 |true =>
  simp only[if_true]at e ⊢
  have e2:dv B9 l=(aE n d:Int)*(-k):=by rw[ef,<-hk];omega
  rw[e2,bh _ O]
  have e3:n / (aE n d:Int)=k:=by
   conv=>lhs;lhs;rw[hk]
   exact bh _ O
  rw[e3];omega
 |false =>
  simp only[Bool.false_eq_true,if_false]at e ⊢
  rw[<-e]
theorem QFi{n d:Int}(h:0<d){neg:Bool}{l p:List Int}(hn:Gv neg l d)(hp:dv B9 p=dv B9 l / (aE n d:Int)):dv B9 p=((ag n d).den:Int):=by
 rw[(WA h).2,hp]
 have:=hn.abs
 congr 1;omega
theorem QAb{d:Int}{a b:Bool}{m:List Int}(hn:Gv a l n)(hd:Gv b m d):aE (dv B9 l) (dv B9 m)=aE n d:=by
 rw[<-hn.abs,<-hd.abs];simp[aE]
theorem QAf(x y:Int):ag (-x) (-y)=ag x y:=bJ x y
theorem kJ(h:DG B9 l)(hz:NZ l):(l.length=1/\Qf l 0=1)↔dv B9 l=1:=by
 constructor
 ·rintro⟨h1,h2⟩
  obtain⟨x,rfl⟩:=List.length_eq_one_iff.1 h1
  simp[Qf]at h2
  simp[dv,h2]
 ·intro e
  have:l=[1]:=uf SH h (DG.cons wa wa (DG.nil _)) hz (by simp[NZ]) (by rw[e];simp[dv])
  subst this;exact⟨rfl,rfl⟩
theorem QCd(h:(x.den:Int)=1):Zf x.num=Je x:=by unfold Je;rw[if_pos O]
theorem pD(h:¬(x.den:Int)=1):Zf x.num++[47]++Zf (x.den:Int)=Je x:=by
 unfold Je;rw[if_neg O,XV (z:=(x.den:Int)) O];simp
theorem NU{x y:Ri}{zy:Int}(hF:Fits F w)(hx:H5 F x zx)(hy:H5 F y zy)(h0:zy≠0)(hzx:sz zx<=500000)(hzy:sz zy<=500000):Qe Tryz.prog 100 [x.v,y.v] w F (tx (Je (ag zx zy))):=by
 obtain⟨xn,⟨xq,xm,xc⟩,xl⟩:=x
 have px:=hx.p
 have lx:=px.len
 have kx:=hx.1.2.1
 have vx:=px.v0
 dsimp only at px lx kx vx
 obtain⟨yn,⟨yq,ym,yc⟩,yl⟩:=y
 have py:=hy.p
 have ly:=py.len
 have ky:=hy.1.2.1
 have vy:=py.v0
 dsimp only at py ly ky vy
 dsimp only[Ri.v]
 have hny:=py.neg
 refine QS.intro (G:=λF=>H5 F ⟨xn,⟨xq,xm,xc⟩,xl⟩ zx/\H5 F ⟨yn,⟨yq,ym,yc⟩,yl⟩ zy) Tryz.func100 rfl wc rfl rfl hF (λF' hF'=>⟨hx.le hF',hy.le hF'⟩)<|wI<|Qo rfl (vs:=[_,_]) rfl (λb2=>Qo rfl (vs:=[_,_]) rfl (λb3=>wF rfl<|QE<|QC ?_))
 refine Lx (ι:=QHf zx zy) [(2,_),(3,_)] (λi=>[]) (λi=>[(b3,.cells [.bool i.d.neg,.slice i.d.r.q i.d.r.n i.d.r.cap].toArray 147 (0,0)),(b2,.cells [.bool i.n.neg,.slice i.n.r.q i.n.r.n i.n.r.cap].toArray 147 (0,0))]) (λi F=>H5 F i.n i.zn/\H5 F i.d i.zd) wP ?_ ?_
 ·
  refine wI<|QA (QH I Ey S2)<|QA (Qg I S2 .here .h1)<|QE<|QC ?_
  refine QR I (λhc=>?_) (λhc=>?_)
  ·
   refine Jt 4 wK mixed y0 y0 ?_
   simp only[List.take_succ_cons,List.take_zero,List.drop_succ_cons,aT]
   refine QK (QJ (vs:=[_,_]) I Jq .u1 .h2 rfl)<|QN I (λw F hF h9=>cw hF (x:=⟨xn,⟨xq,xm,xc⟩,xl⟩) h9.1 O) (λc14=>QK (QJ (vs:=[_,_]) I Jq .here .h2 rfl)<|QN I (λw F hF h9=>cw hF (x:=⟨yn,⟨yq,ym,yc⟩,yl⟩) h9.1.2 O) (λc16=>Ze<|QO (vs:=[_,_]) I I I Jq I .u1 .h2 wP<|QO (vs:=[_,_]) I I I Jq I .here .h2 wP<|QE ?_))
   exact Zq (⟨c14,c16,-zx,-zy,by rw[hc]at hny;have:=wM hny.symm;omega,QAf _ _,by rw[Vq];exact hzx,by rw[Vq];exact hzy⟩) wP wK (λF h9=>⟨⟨h9.1.1.1,h9.1.1.2⟩,⟨h9.1.2,h9.2⟩⟩)
  ·
   refine QQ ?_
   exact Zq (⟨⟨xn,⟨xq,xm,xc⟩,xl⟩,⟨yn,⟨yq,ym,yc⟩,yl⟩,zx,zy,by rw[hc]at hny;have:=wN hny.symm;omega,rfl,hzx,hzy⟩) wP wK (λF ⟨hx,hy⟩=>⟨⟨hx,hy⟩,⟨hx,hy⟩⟩)
 ·intro i
  simp only[ab,ae]
  refine XQ _ (λw F hF h=>av h.2.1.p (av h.2.2.p (av h.2.1.1.2.1 h.2.2.1.2.1))) (λpp=>?_)
  obtain⟨pn,pd,kn,kd⟩:=pp
  have ln:=pn.len
  have ld:=pd.len
  have hsn:=i.sn
  have hsd:=i.sd
  have hi:=i.h
  have gg:=QAb pn pd
  have q1:=VJ (a:=i.zn) (b:=i.zd) O
  have q2:=Js (ag i.zn i.zd)
  have q3:=Jo (ag i.zn i.zd)
  have q4:sz (ag i.zn i.zd).num<=500000:=O
  have q5:sz ((ag i.zn i.zd).den:Int)<=500000:=O
  refine wI<|QA (QH I VD Jf)<|QA (Qg I Jf .u1 (.skip .h1))<|QA (QH I VD Jf)<|QA (Qg I Jf .here (.skip .h1)) ?_
  refine QI I (λw F hF h9=>dP hF (a:=i.n.l) (b:=i.d.l) (ra:=i.n.r) (rb:=i.d.r) h9.2.1.1 (h9.2.2.1) (pn.dg) (pd.dg) (pn.nz) (pd.nz) O O) (λc21=>?_);rcases c21 with ⟨v21,l21⟩;dsimp only
  refine JQ _ (λw F hF ⟨⟨⟨hx,hy⟩,⟨hN,hD⟩⟩,⟨h21,h21p⟩⟩=>av h21.2 h21p) (λp21=>wH rfl<|QG ?_)
  have g0:0<dv B9 l21:=by rw[p21.2.2.2,gg];have:=HZ (x:=i.zn) i.h;omega
  have l21l:l21.length<=i.d.l.length:=by
   refine SB p21.2.1 pd.dg p21.2.2.1 ?_
   rw[p21.2.2.2,gg]
   have h1:(aE i.zn i.zd:Int)<=i.zd:=Int.le_of_dvd i.h (Int.gcd_dvd_right (a:=i.zn) (b:=i.zd))
   have h2:=pd.abs
   omega
  refine QB<|QA (QH rfl VD Jf)<|QA (Qg rfl Jf .u1 (.skip .h1))<|wE rfl<|QI rfl (λw F hF h9=>U5 hF (a:=i.n.l) (b:=l21) (ra:=i.n.r) (rb:=v21) h9.1.2.1.1 (h9.2.1) (pn.dg) (p21.2.1) (pn.nz) (p21.2.2.1) (g0) O O) (λc26=>wE rfl<|QA (QT rfl rfl)<|QA (QT rfl rfl)<|wF rfl<|wH rfl<|QG<|XQ _ (λw F hF h=>av h.2.1.2 h.2.1.1.2.1) (λp26=>?_))
  obtain⟨p26,n26⟩:=p26
  refine QB<|QA (QH rfl VD Jf)<|QA (Qg rfl Jf .here (.skip .h1))<|wE rfl<|QI rfl (λw F hF h9=>U5 hF (a:=i.d.l) (b:=l21) (ra:=i.d.r) (rb:=v21) h9.1.1.2.2.1 (h9.1.2.1) (pd.dg) (p21.2.1) (pd.nz) (p21.2.2.1) (g0) O O) (λc33=>wE rfl<|QA (QT rfl rfl)<|QA (QT rfl rfl)<|wF rfl<|wH rfl<|QG<|XQ _ (λw F hF h=>av h.2.1.2 h.2.1.1.2.1) (λp33=>?_))
  obtain⟨p33,n33⟩:=p33
  have en:N6 i.n.neg c26.1.2=(ag i.zn i.zd).num:=QFh i.h pn (by rw[p26.2.2,p21.2.2.2,gg])
  have ed:dv B9 c33.1.2=((ag i.zn i.zd).den:Int):=QFi i.h pd (by rw[p33.2.2,p21.2.2.2,gg])
  have ed2:N6 false c33.1.2=((ag i.zn i.zd).den:Int):=by rw[<-ed];rfl
  have lnp:=SB p26.1 pn.dg p26.2.1 (by rw[p26.2.2];exact aR _ pn.v0)
  have lnq:=SB p33.1 pd.dg p33.2.1 (by rw[p33.2.2];exact aR _ pd.v0)
  have one1:=kJ p33.1 p33.2.1
  have lr1:=ND (ag i.zn i.zd).num
  have lr2:=ND ((ag i.zn i.zd).den:Int)
  refine QB<|QA (QH I Ey S2)<|QA (Qg I S2 .u1 .h1)<|wE I<|QI I (λw F hF h9=>WU hF (r:=c26.1.1) (l:=c26.1.2) (neg:=i.n.neg) h9.1.2.1.1 (p26.1) (by first | omega | (simp;omega))) (λc39=>QI I (λw F hF h9=>pB hF (zx:=(ag i.zn i.zd).num) (by rw[<-en];exact h9.2) O) (λ_=>wH I<|QG<|wJ I<|QA (Qh I Q2)<|QA (QZ I I I)<|wE I ?_))
  refine Q3 (t:=44) rfl (λhb44=>?_) (λhb44=>?_)
  ·
   have hn1:c33.1.1.n=1:=by simp at hb44;omega
   refine QM I I<|wE I<|QM I I<|QA (Q9 (n:=c33.1.1.n) (0) (λF h9=>(h9.1.1.2.1.1).1) rfl wA Q2 JR O)<|QM I I<|QA (Jd (n:=c33.1.1.n) ((0)*1) (λF h9=>(h9.1.1.2.1.1).1) O rfl JR (XR (o:=c33.1.2) O))<|QM I I<|QA (QZ I I I)<|QA (Qp I I I)<|QE<|QC ?_
   refine QR I (λhc=>?_) (λhc=>?_)
   ·
    refine wJ I<|wH I<|QY ?_
    exact wL I I (by rw[<-i.e];exact congrArg (λl=>tx l) (QCd (by rw[<-ed];exact one1.1 ⟨O,by simpa using hc⟩)).symm) wh
   ·
    refine QQ<|QC<|wJ I<|QA (KF I I wg)<|wE I<|QI I (λw F hF h9=>WU hF (r:=c33.1.1) (l:=c33.1.2) (neg:=false) h9.1.1.2.1.1 (p33.1) (by first | omega | (simp;omega))) (λc54=>QI I (λw F hF h9=>pB hF (zx:=((ag i.zn i.zd).den:Int)) (by rw[<-ed2];exact h9.2) O) (λ_=>QA (KF I I wg)<|wH I<|QY ?_))
    exact wL I I (by rw[<-i.e];exact congrArg (λl=>tx l) (pD (λg=>by have:=one1.2 (by rw[ed];exact g);rw[this.2]at hc;simp at hc)).symm) wh
  ·
   have hn1:c33.1.1.n≠1:=by simp at hb44;omega
   refine Qc I I I<|Qc I I I<|Qc I I I<|Qc I I I<|QA (Qj I I I)<|wG<|Ko I<|QQ<|QC<|wJ I<|QA (KF I I wg)<|wE I<|QI I (λw F hF h9=>WU hF (r:=c33.1.1) (l:=c33.1.2) (neg:=false) h9.1.1.2.1.1 (p33.1) (by first | omega | (simp;omega))) (λc54=>QI I (λw F hF h9=>pB hF (zx:=((ag i.zn i.zd).den:Int)) (by rw[<-ed2];exact h9.2) O) (λ_=>QA (KF I I wg)<|wH I<|QY ?_))
   exact wL I I (by rw[<-i.e];exact congrArg (λl=>tx l) (pD (λg=>by have:=one1.2 (by rw[ed];exact g);omega)).symm) wh
theorem QD5(x:Rat):(H8 x).num=(x.num.natAbs:Int)/\(H8 x).den=x.den:=by
 unfold H8;split
 ·exact⟨by rw[bB];omega,by rw[bZ]⟩
 ·exact⟨O,rfl⟩
theorem QC0{z:Int}(h:z<0):Zf z=45::Zf (-z):=by
 rw[Kh h,XV (z:=-z) O];congr 2;omega
theorem C0(h:x.num<0):Je x=45::Je (-x):=by
 unfold Je
 rw[bB,bZ,QC0 h]
 split<;>rfl
theorem S6(x:Rat):ar (Je x) [45]=decide (x.num<0):=by
 by_cases h:x.num<0
 ·rw[C0 h];simp[ar,bO,h]
 ·have e:(decide (x.num<0))=false:=by simpa using h
  rw[e]
  unfold Je
  rw[XV O]
  have hd:=Jv x.num.natAbs
  split
  ·exact Wi hd
  ·have hne:=WB x.num.natAbs
   cases hl:aD x.num.natAbs with
   |nil=>exact absurd hl hne
   |cons c r =>
    have:=Wi hd
    rw[hl]at this
    simpa[ar,bO]using this
theorem cy(x:Rat):aa (Je x) [45]=Je (H8 x):=by
 unfold aa H8
 rw[S6]
 by_cases h:x.num<0
 ·rw[if_pos (by simpa using h),if_pos h,C0 h];rfl
 ·rw[if_neg (by simpa using h),if_neg h]
theorem yY{l:List UInt8}(h:X6 l=true)(hl:l.length<=9):JJ l<1000000000:=by
 have h1:=Gb h
 have h2:10^l.length<=10^9:=Nat.pow_le_pow_right wa hl
 omega
theorem Cw(hF:Fits F w)(hl:JL x<=100000):QS Tryz.prog 99 [tx (Je x)] w F (λ(c:Int×Int×Bool)=>.tuple #[.int .i64 c.1,.int .i64 c.2.1,.bool c.2.2]) (λc _=>QCr x c):=by
 have hlen:=qG x
 have hlen2:=qG (H8 x)
 rw[cg]at hlen2
 obtain⟨an,ad⟩:=QD5 x
 have hah:=Ub ZC (Je (H8 x))
 have anT:Zf (H8 x).num=aD x.num.natAbs:=by rw[an,XV O];rfl
 refine QS.intro (G:=λF=>True) Tryz.func99 rfl wc rfl rfl hF wh<|wI<|wF rfl<|wF rfl<|wH rfl<|wJ rfl<|wH rfl<|QG<|wJ rfl<|QA (X7 rfl ZQ)<|QA (QZ rfl rfl rfl)<|QE<|QC ?_
 refine QR I (λhc=>?_) (λhc=>?_)
 ·
  refine wI<|wF I<|wF I<|wH I<|QY ?_
  exact JZ ((0,0,false):Int×Int×Bool) rfl (.tmp rfl (wC rfl rfl)) (rfl) (λF hT=>λh=>by cases h)
 ·
  refine QQ<|QC ?_
  refine YV [(5,_)] [(6,.bool (decide (x.num<0)))] wO ?_ ?_
  ·
   refine QB<|wE I<|QA (X7 I ZQ)<|QA (QZ I I I)<|wE I ?_
   refine Q3 (t:=17) rfl (λhb17=>?_) (λhb17=>?_)
   ·
    refine QM I I<|wE I<|QM I I<|QA (Gc (i:=0) rfl rfl ZQ (by have:=wM hb17;omega))<|QM I I<|QA (QZ I I I)<|QA (Qp I I I)<|wF I<|QE ?_
    exact J3 ⟨rfl,(congrArg (λb=>some (af b)) (by have h0:0<(Je x).length:=(by have:=wM hb17;omega);rw[<-S6,BP h0];exact RO I)),trivial⟩ wK wi
   ·
    refine Qc I I I<|Qc I I I<|Qc I I I<|QA (Qj I I I)<|wF I<|QE ?_
    exact J3 ⟨rfl,(congrArg (λb=>some (af b)) (by have h0:(Je x).length=0:=(by have:=wN hb17;omega);rw[<-S6,ai h0];rfl)),trivial⟩ wK wi
  ·
   simp only[ab,ae]
   refine YV [(6,_)] [(5,tx (Je (H8 x)))] wO ?_ ?_
   ·
    refine wJ I<|QE<|QC ?_
    refine QR I (λhc=>?_) (λhc=>?_)
    ·
     refine QB<|wE I<|QA (GW (1) rfl rfl ZQ I (by have:=Rr (s:=Je x) (by rw[S6];exact hc);omega))<|wF I<|QE ?_
     exact J3 ⟨rfl,(congrArg (λl=>some (tx l)) (by rw[<-cy];unfold aa;rw[if_pos (by rw[S6];exact hc)];rfl)),trivial⟩ wK wi
    ·
     refine QQ ?_
     exact J3 ⟨rfl,(congrArg (λl=>some (tx l)) (by rw[<-cy];unfold aa;rw[S6,hc];rfl)),trivial⟩ wK wi
   ·
    simp only[ab,ae]
    refine wJ I<|QI I (λw F hF hT=>Tn hF O) (λ_=>wH I<|QG<|wJ I<|QA (QZ I I I)<|wE I ?_)
    refine Q3 (t:=29) rfl (λhb29=>?_) (λhb29=>?_)
    ·
     refine Qc I I I<|Qc I I I<|Qc I I I<|Qc I I I<|Qc I I I<|QA (Qp I I I)<|wG<|qp I<|wI<|wF I<|wF I<|wH I<|QY ?_
     exact JZ ((0,0,false):Int×Int×Bool) rfl (.tmp rfl (wC rfl rfl)) (rfl) (λF h9=>λh=>by cases h)
    ·
     refine QM I I<|wE I<|QM I I<|QA (X7 I ZQ)<|QM I I<|wE I<|QM I I<|QA (Xw I I O)<|QM I I<|QA (QZ I I I)<|QA (Qj I I I)<|QE<|QC ?_
     refine QR I (λhc=>?_) (λhc=>?_)
     ·
      refine wI<|wF I<|wF I<|wH I<|QY ?_
      exact JZ ((0,0,false):Int×Int×Bool) rfl (.tmp rfl (wC rfl rfl)) (rfl) (λF h9=>λh=>by cases h)
     ·
      have k9:ahead ZC (Je (H8 x))<=9/\(Je (H8 x)).length - ahead ZC (Je (H8 x))<=10:=by
       have ha:=Ub ZC (Je (H8 x))
       first | (simp at hc hb29;omega) | (simp at hc;omega)
      have kt:(Je (H8 x)).take (ahead ZC (Je (H8 x)))=Zf (H8 x).num:=by
       by_cases hd:(H8 x).den=1
       ·obtain⟨e1,e2⟩:=Fq hd
        rw[e2,aA,e1]
       ·exact(MY hd).2.2.1
      have kr:JJ ((Je (H8 x)).take (ahead ZC (Je (H8 x))))=x.num.natAbs:=by rw[kt,anT,Zh]
      have hnum:x.num.natAbs<1000000000:=by
       have h1:=yY (l:=Zf (H8 x).num) (by rw[anT];exact Jv _) (by rw[<-kt,ao];omega)
       rw[anT,Zh]at h1;exact h1
      have hdn:x.den<1000000000:=by
       rw[<-ad]
       by_cases hd:(H8 x).den=1
       ·omega
       ·obtain⟨e1,e2,e3,e4⟩:=MY hd
        have h1:=yY (l:=aD (H8 x).den) (Jv _) (by rw[<-e4,aG];omega)
        rw[Zh]at h1;exact h1
      refine QQ<|QC<|wJ I<|wE I<|QA (Ee (ahead ZC (Je (H8 x))) I I ZQ I O)<|QI I (λw F hF h9=>Rh hF (by rw[kt,anT];exact Jv _) (by rw[ao];omega)) (λ_=>?_)
      rw[kr]
      refine wF I<|wF I<|QE<|QC ?_
      refine YV [(6,_),(8,_)] [(9,.int .i64 (x.den:Int))] wP ?_ ?_
      ·
       refine wJ I<|wE I<|QA (X7 I ZQ)<|QA (QZ I I I)<|QE<|QC ?_
       refine QR I (λhc=>?_) (λhc=>?_)
       ·
        have hlt:=wM hc
        have hd:¬(H8 x).den=1:=λg=>by have:=(OP (H8 x)).2 g;have:=wM hc;omega
        have kd:=(MY hd).2.2.2
        have kd2:JJ ((Je (H8 x)).drop (ahead ZC (Je (H8 x))+1))=x.den:=by rw[kd,Zh,ad]
        refine QB<|wE I<|wE I<|QA (Qu I I O)<|QA (GW ((ahead ZC (Je (H8 x))+1)) I I ZQ wA O)<|QI I (λw F hF h9=>Rh hF (by rw[kd];exact Jv _) (by rw[aG];omega)) (λ_=>?_)
        rw[kd2]
        refine wF I<|QE ?_
        exact J3 wQ wK wj
       ·
        have hd:(H8 x).den=1:=(OP (H8 x)).1 (by have:=wN hc;have:=Ub ZC (Je (H8 x));omega)
        refine QQ ?_
        exact J3 ⟨rfl,rfl,(congrArg (λz:Int=>some (ah .i64 z)) (by rw[<-ad,hd];rfl)),trivial⟩ wK wi
      ·
       simp only[ab,ae]
       have hden:x.den<1000000000:=hdn
       refine YV [(9,_)] [(8,.int .i64 (x.num))] wO ?_ ?_
       ·
        refine wJ I<|QE<|QC ?_
        refine QR I (λhc=>?_) (λhc=>?_)
        ·
         refine QB<|wE I<|QA (Xw I I O)<|wF I<|QE ?_
         exact J3 ⟨rfl,(congrArg (λz:Int=>some (ah .i64 z)) (by have:=wM hc;omega)),trivial⟩ wK wi
        ·
         refine QQ ?_
         exact J3 ⟨rfl,(congrArg (λz:Int=>some (ah .i64 z)) (by have:=wN hc;omega)),trivial⟩ wK wi
       ·
        simp only[ab,ae]
        refine wJ I<|wE I<|wF I<|wF I<|wH I<|QY ?_
        exact JZ ((x.num,(x.den:Int),true):Int×Int×Bool) rfl (.tmp rfl (wC I I)) (rfl) (λF h9=>λ_=>⟨rfl,rfl,hnum,hden⟩)
section
variable{P:Program}{N:Nat}{m:Sl}{S:World->Prop}{ty:TypeId}
theorem QGJ{yT:TypeId}{x y:Operand}{a b:Int}(hx:ev m x=some (.int .i64 a))(hy:ev m y=some (.int .i64 b))(h:0<b)(h0 : -9223372036854775807<=a)(h1:a<=9223372036854775807):Qt P N m S (.binOp .quo T x y yT) ty (.int .i64 (a.tdiv b)):=by
 have:=xg (P:=P) (N:=N) (m:=m) (S:=S) (ty:=ty) (T:=T) (yT:=yT) hx hy O
 have e:=bR a b
 have e2:a.natAbs.div b.natAbs<=a.natAbs:=bQ _ _
 rw[IntWalk.i64_in _ O]at this;exact this
end
theorem QFW{x y:Int}(hF:Fits F w)(h0:0<=x)(h1:x<=9223372036854775807)(k0:0<=y)(k1:y<=9223372036854775807):Qe Tryz.prog 103 [.int .i64 x,.int .i64 y] w F (.int .i64 (aQ x.toNat y.toNat:Nat)):=by
 have:=QD2 (a:=x.toNat) (b:=y.toNat) hF O O
 rw[aV h0,aV k0]at this;exact this
theorem QEP(z:Int):(if 0 - z>z then 0 - z else z)=((z.natAbs:Nat):Int):=by split<;>omega
theorem QAh(n:Nat):S3 n 1=aD n:=by
 rcases aC n with h | h
 ·subst h;unfold S3 hd;rw[if_pos rfl,Yr];rfl
 ·exact US h
theorem QEF{d:Nat}(h:0<d):n.tdiv ((aQ n.natAbs d:Nat):Int)=(ag n d).num:=by
 rw[(WA (x:=n) (y:=(d:Int)) O).1]
 have e:(aQ n.natAbs d:Nat)=aE n (d:Int):=by simp[aE]
 rw[e]
 exact Int.tdiv_eq_ediv_of_dvd (bP (a:=n) (b:=(d:Int)))
theorem QEG{d:Nat}(h:0<d):(d:Int) / ((aQ n.natAbs d:Nat):Int)=((ag n d).den:Int):=by
 rw[(WA (x:=n) (y:=(d:Int)) O).2]
 have e:(aQ n.natAbs d:Nat)=aE n (d:Int):=by simp[aE]
 rw[e]
theorem QFY(n:Int){d:Int}(h:d≠0):ag (if d<0 then 0 - n else n) (d.natAbs:Int)=ag n d:=by
 split
 ·rename_i g
  rw[show((d.natAbs:Nat):Int) = -d by omega,Int.zero_sub];exact bJ n d
 ·rw[show((d.natAbs:Nat):Int)=d by omega]
theorem QEH{d:Nat}(h:0<d)(hn:n.natAbs<=4000000000000000000)(hd:d<=4000000000000000000):(ag n d).num.natAbs<=4000000000000000000/\(ag n d).den<=4000000000000000000/\0<(ag n d).den:=by
 have e1:=QEF (n:=n) h
 have e2:=QEG (n:=n) h
 have k1:=bR n ((aQ n.natAbs d:Nat):Int)
 have k2:n.natAbs.div ((aQ n.natAbs d:Nat):Int).natAbs<=n.natAbs:=bQ _ _
 have k3:(d:Int) / ((aQ n.natAbs d:Nat):Int)<=(d:Int):=aR _ O
 have k4:=(ag n d).den_pos
 rw[e1]at k1
 omega
theorem QAN(z:Int):(if z<0 then[45]else[])++aD z.natAbs=Zf z:=by
 split
 ·rename_i h;rw[Kh h];rfl
 ·rw[XV O];rfl
theorem QFS{z:Int}(h : -9223372036854775808<=z/\z<=9223372036854775807):sz z<=64:=by
 rw[XL];omega
theorem QDx{num den:Int}(hF:Fits F w)(hn : -9223372036854775808<=num/\num<=9223372036854775807)(hd : -9223372036854775808<=den/\den<=9223372036854775807)(h0:den≠0):Qe Tryz.prog 21 [.int .i64 num,.int .i64 den] w F (tx (Je (ag num den))):=by
 refine QS.intro (G:=λF=>True) Tryz.func21 rfl wc rfl rfl hF wh<|wI<|wH rfl<|QG ?_
 refine YV [(0,_),(1,_)] [(20,.bool (decide (num < -4000000000000000000\/num>4000000000000000000\/den < -4000000000000000000\/den>4000000000000000000)))] wP ?_ ?_
 ·
  refine QB<|wE I<|QA (QZ I I I)<|wE I ?_
  refine Q3 (t:=9) rfl (λhb9=>?_) (λhb9=>?_)
  ·
   refine Qc I I I<|Qc I I I<|QA (Qp I I I)<|wE I<|Qc I I I<|Qc I I I<|QA (Qp I I I)<|wE I<|Qc I I I<|Qc I I I<|QA (Qp I I I)<|QE ?_
   exact J3 ⟨rfl,rfl,(congrArg (λb=>some (af b)) (by rw[au];simp_all;try omega)),trivial⟩ wK wi
  ·
   refine QM I I<|wE I<|QM I I<|QA (QZ I I I)<|QA (Qj I I I)<|wE I ?_
   refine Q3 (t:=13) rfl (λhb13=>?_) (λhb13=>?_)
   ·
    refine Qc I I I<|Qc I I I<|QA (Qp I I I)<|wE I<|Qc I I I<|Qc I I I<|QA (Qp I I I)<|QE ?_
    exact J3 ⟨rfl,rfl,(congrArg (λb=>some (af b)) (by rw[au];simp_all;try omega)),trivial⟩ wK wi
   ·
    refine QM I I<|wE I<|QM I I<|QA (QZ I I I)<|QA (Qj I I I)<|wE I ?_
    refine Q3 (t:=17) rfl (λhb17=>?_) (λhb17=>?_)
    ·
     refine Qc I I I<|Qc I I I<|QA (Qp I I I)<|QE ?_
     exact J3 ⟨rfl,rfl,(congrArg (λb=>some (af b)) (by rw[au];simp_all;try omega)),trivial⟩ wK wi
    ·
     refine QM I I<|wE I<|QM I I<|QA (QZ I I I)<|QA (Qj I I I)<|QE ?_
     exact J3 ⟨rfl,rfl,(congrArg (λb=>some (af b)) (by rw[au];simp_all;try omega)),trivial⟩ wK wi
 ·
  simp only[ab,ae]
  refine QR I (λhc=>?_) (λhc=>?_)
  ·
   refine wJ I<|QI I (λw F hF hT=>RG hF O) (λc22=>wE I<|QI I (λw F hF h9=>RG hF O) (λc24=>QI I (λw F hF h9=>NU hF (h9.1.2) (h9.2) (h0) (by have:=QFS hn;omega) (by have:=QFS hd;omega)) (λ_=>wH I<|QY ?_)))
   exact wL I I (rfl) wh
  ·
   have hb:¬(num < -4000000000000000000\/num>4000000000000000000\/den < -4000000000000000000\/den>4000000000000000000):=wN hc
   refine QQ<|QC ?_
   refine YV [] [(0,.int .i64 (if den<0 then 0 - num else num)),(1,.int .i64 ((den.natAbs:Nat):Int))] trivial ?_ ?_
   ·
    refine wJ I<|QA (QZ I I I)<|QE<|QC ?_
    refine QR I (λhc=>?_) (λhc=>?_)
    ·
     refine QB<|wE I<|QA (Xw I I O)<|wE I<|QA (Xw I I O)<|wF I<|wF I<|QE ?_
     exact J3 ⟨(congrArg (λz:Int=>some (ah .i64 z)) (if_pos (wM hc)).symm),(congrArg (λz:Int=>some (ah .i64 z)) (by have:=wM hc;omega)),trivial⟩ wK wi
    ·
     refine QQ ?_
     exact J3 ⟨(congrArg (λz:Int=>some (ah .i64 z)) (if_neg (wN hc)).symm),(congrArg (λz:Int=>some (ah .i64 z)) (by have:=wN hc;omega)),trivial⟩ wK wi
   ·
    simp only[ab,ae]
    have hq:=QFY num h0
    have b1:(if den<0 then 0 - num else num).natAbs<=4000000000000000000:=by split<;>omega
    generalize (if den<0 then 0 - num else num)=n1 at *
    obtain⟨c1,c2,c3⟩:=QEH (n:=n1) (d:=den.natAbs) O b1 O
    have hg:0<aQ n1.natAbs den.natAbs:=Nat.gcd_pos_of_pos_right _ O
    have lr1:=ND (ag n1 (den.natAbs:Int)).num
    have lr2:=Lw (ag n1 (den.natAbs:Int)).den
    have lz1:=QFS (z:=(ag n1 (den.natAbs:Int)).num) O
    have lz2:=QFS (z:=((ag n1 (den.natAbs:Int)).den:Int)) O
    have e1:=QEF (n:=n1) (d:=den.natAbs) O
    have e2:=QEG (n:=n1) (d:=den.natAbs) O
    refine wJ I<|wE I<|QA (Xw I I O)<|QA (QD7 I I) ?_
    rw[QEP]
    refine wE I<|QI I (λw F hF hT=>QFW hF O O O O) (λ_=>wH I<|QG<|JO wK mixed y0 ?_)
    simp only[aw]
    refine QK (QD I)<|QK (QD I)<|QK (QGJ I I O O O) ?_
    rw[e1]
    refine QK (QD I)<|QK (QD I)<|QK (Ro I I O O O) ?_
    rw[e2]
    refine QK (QF I)<|QK (QF I)<|Q6<|QC<|wI<|wF I<|QE<|QC ?_
    refine YV [(0,_),(1,_)] [(6,tx (if(ag n1 (den.natAbs:Int)).num<0 then[45]else[]))] wP ?_ ?_
    ·
     refine wJ I<|QA (QZ I I I)<|QE<|QC ?_
     refine QR I (λhc=>?_) (λhc=>?_)
     ·
      refine QB<|wF I<|QE ?_
      exact J3 ⟨rfl,rfl,(congrArg (λl=>some (tx l)) (if_pos (wM hc)).symm),trivial⟩ wK wi
     ·
      refine QQ ?_
      exact J3 ⟨rfl,rfl,(congrArg (λl=>some (tx l)) (if_neg (wN hc)).symm),trivial⟩ wK wi
    ·
     simp only[ab,ae]
     refine wJ I<|wE I<|wE I<|QA (Xw I I O)<|QA (QD7 I I) ?_
     rw[QEP]
     refine QI I (λw F hF h9=>S5 hF (least:=1) O O O) (λ_=>?_)
     simp only[aw,QAh]
     refine QA (KF I I (by have e:=congrArg bV (QAN (ag n1 (den.natAbs:Int)).num);rw[aJ]at e;omega))<|wH I<|QG<|QG<|QB ?_
     rw[QAN]
     refine wE I<|QA (QZ I I I)<|QE<|QC ?_
     refine QR I (λhc=>?_) (λhc=>?_)
     ·
      have hd1:¬((ag n1 (den.natAbs:Int)).den:Int)=1:=by have:=wM hc;omega
      refine QB<|wE I<|QA (KF I I (by simp only[aJ,aM,bM];omega))<|wE I<|QI I (λw F hF h9=>S5 hF (least:=1) O O O) (λ_=>?_)
      simp only[aw,QAh]
      refine QA (KF I I (by simp only[aJ,aM,bM];omega))<|wH I<|wJ I<|wH I<|QY ?_
      exact wL I I (by rw[<-hq];exact congrArg (λl=>tx l) (by rw[<-pD hd1,C9])) wh
     ·
      have hd1:((ag n1 (den.natAbs:Int)).den:Int)=1:=by have:=wN hc;omega
      refine QQ<|QC<|wJ I<|wH I<|QY ?_
      exact wL I I (by rw[<-hq];exact congrArg (λl=>tx l) (QCd hd1).symm) wh
theorem QFb(x:Rat):QGT (Je x)=Je (-x):=by
 unfold QGT FI
 rw[S6]
 by_cases h0:Je x=[48]
 ·rw[if_pos h0]
  have hx:x=0:=by
   have hv:=K8 x.num
   by_cases hd:x.den=1
   ·rw[(Fq hd).1]at h0
    rw[h0]at hv
    have:x.num=0:=by rw[<-hv];rfl
    exact Rat.num_eq_zero.1 this
   ·have:=(MY hd).2.2.1
    have h1:=(MY hd).2.1
    rw[h0]at h1
    have h2:=(MY hd).1
    have h3:0<(Zf x.num).length:=by
     rcases aC (Zf x.num).length with g | g
     ·have e:=ai g
      unfold Zf at e
      rcases bw x.num 0 with q | q
      ·have:=Kh q;unfold Zf at this;rw[this]at e;cases e
      ·have:=XV q;unfold Zf at this;rw[this]at e;exact absurd e (WB _)
     ·exact g
    rw[h0]at h2
    simp at h1;omega
  subst hx
  have e:(-0:Rat)=0:=wa
  rw[e,if_neg wa,if_pos rfl]
 ·rw[if_neg h0]
  by_cases hn:x.num<0
  ·rw[if_pos (show(decide (x.num<0))=true by simpa using hn),if_pos wa,C0 hn];rfl
  ·rw[if_neg (show ¬(decide (x.num<0))=true by simpa using hn),if_neg wa,if_neg wa]
   have h1:(-x).num<0:=by
    rw[bB]
    have:x.num≠0:=by
     intro e
     have:=Rat.num_eq_zero.1 e
     subst this
     exact h0 F6
    omega
   have:=C0 h1
   rw[Rat.neg_neg]at this
   exact this.symm
theorem QDs(x:Rat):FI (Je x)=ED x.num:=by
 unfold FI
 rw[S6]
 by_cases h0:x=0
 ·subst h0;rw[if_pos F6];rfl
 ·have hn:x.num≠0:=λe=>h0 (Rat.num_eq_zero.1 e)
  have h1:Je x≠[48]:=by
   intro e
   have h2:=QFb x
   unfold QGT FI at h2
   rw[if_pos e,if_neg wa,if_pos rfl,e]at h2
   by_cases hd:x.den=1
   ·have hv:=K8 x.num
    rw[<-(Fq hd).1,e]at hv
    exact hn hv.symm
   ·have:=(MY hd).2.2.1
    have hv:=K8 x.num
    rw[<-this,e]at hv
    have h3:=(MY hd).2.1
    rw[e]at h3
    have h4:ahead ZC [48]=1:=wa
    rw[h4]at h3
    exact absurd h3 wa
  rw[if_neg h1]
  unfold ED
  by_cases g:x.num<0
  ·rw[if_pos (show(decide (x.num<0))=true by simpa using g),if_pos g]
  ·rw[if_neg (show ¬(decide (x.num<0))=true by simpa using g),if_neg g,if_neg hn]
theorem QIA{y:Rat}(hF:Fits F w)(hx:JL x<=100000)(hy:JL y<=100000):Qe Tryz.prog 60 [tx (Je x),tx (Je y)] w F (tx (Je (x+y))):=by
 refine QS.intro (G:=λF=>True) Tryz.func60 rfl wc rfl rfl hF wh<|wI<|wH rfl<|wJ rfl<|QI rfl (λw F hF hT=>Cw hF (hx)) (λc17=>JQ _ (λw F hF h9=>h9.2) (λp17=>wE rfl<|QA (QT rfl rfl)<|QA (QT rfl rfl)<|QA (QT rfl rfl)<|wF rfl<|wF rfl<|wH rfl<|wJ rfl<|QI rfl (λw F hF h9=>Cw hF (hy)) (λc23=>JQ _ (λw F hF h9=>h9.2) (λp23=>?_))))
 refine wE I<|QA (QT I I)<|QA (QT I I)<|QA (QT I I)<|wF I<|wF I<|wH I<|QG<|wJ I<|wE I ?_
 refine Q3 (t:=28) rfl (λhb28=>?_) (λhb28=>?_)
 ·
  refine QM I I<|wE I<|QA (Qp I I I)<|QE<|QC ?_
  refine QR I (λhc=>?_) (λhc=>?_)
  ·
   refine QG ?_
   obtain⟨a1,a2,a3,a4⟩:=p17 hb28
   obtain⟨b1,b2,b3,b4⟩:=p23 hc
   have xd:=x.den_pos
   have yd:=y.den_pos
   have e1:(x.num*y.den).natAbs<1000000000*1000000000:=by rw[aB];exact ak a3 O
   have e2:(y.num*x.den).natAbs<1000000000*1000000000:=by rw[aB];exact ak b3 O
   have e3:(x.num*y.num).natAbs<1000000000*1000000000:=by rw[aB];exact ak a3 b3
   have e4:((x.den:Int)*y.den).natAbs<1000000000*1000000000:=by rw[aB];exact ak O O
   have e5:(x.den:Int)*y.den≠0:=by have h1:=K4 x;have h2:=K4 y;exact aK h1 h2
   rw[a1,a2,b1,b2]
   refine QB<|wE I<|wE I<|QA (PN I I O)<|wE I<|wE I<|QA (PN I I O)<|QA (Qu I I O)<|wE I<|wE I<|QA (PN I I O)<|QI I (λw F hF h9=>QDx hF O O (e5)) (λ_=>wH I<|QY ?_)
   exact wL I I (by rw[Bl]) wh
  ·
   refine QQ<|QC<|QG ?_
   have s1:=Js x
   have s2:=Jo x
   have s3:=Js y
   have s4:=Jo y
   have m1:=Wd x.num y.den
   have m2:=Wd y.num x.den
   have m3:=Wd (x.den:Int) y.den
   have m4:=Wd x.num y.num
   have m5:=OH (x.num*y.den) (y.num*x.den)
   have e5:(x.den:Int)*y.den≠0:=aK (K4 x) (K4 y)
   refine QB<|wE I<|QI I (λw F hF h9=>Ec hF (hx)) (λc44=>wE I<|QA (QT I I)<|QA (QT I I)<|Qb K9 (λb11=>Qb K9 (λb12=>QO (vs:=[_,_]) I I I Jq I .u1 .h2 wP<|QO (vs:=[_,_]) I I I Jq I .here .h2 wP<|wG<|wJ I<|QI I (λw F hF h9=>Ec hF (hy)) (λc49=>wE I<|QA (QT I I)<|QA (QT I I)<|Qb K9 (λb13=>Qb K9 (λb14=>QO (vs:=[_,_]) I I I Jq I .u1 .h2 wP<|QO (vs:=[_,_]) I I I Jq I .here .h2 wP<|QE<|QC ?_))))))
   refine QG<|JO wK mixed y0<|QK (QJ (vs:=[_,_]) I Jq .u3 .h2 rfl)<|QK (QJ (vs:=[_,_]) I Jq .here .h2 rfl)<|QN I (λw F hF h9=>DV hF (h9.1.2.1) (h9.2.2) O O) (λc54=>QK (QJ (vs:=[_,_]) I Jq .u1 .h2 rfl)<|QK (QJ (vs:=[_,_]) I Jq .u2 .h2 rfl)<|QN I (λw F hF h9=>DV hF (h9.1.2.1) (h9.1.1.2.2) O O) (λc57=>QN I (λw F hF h9=>QCb hF (h9.1.2) (h9.2) O O) (λc58=>QK (QJ (vs:=[_,_]) I Jq .u2 .h2 rfl)<|QK (QJ (vs:=[_,_]) I Jq .here .h2 rfl)<|QN I (λw F hF h9=>DV hF (h9.1.1.1.1.2.2) (h9.1.1.1.2.2) O O) (λc61=>QN I (λw F hF h9=>NU hF (h9.1.2) (h9.2) (e5) O O) (λ_=>QK (QF I)<|Q6<|QC<|QY ?_)))))
   exact wL I I (by rw[Bl]) wh
 ·
  refine Qc I I I<|QA (Qj I I I)<|wG<|Ko I<|QQ<|QC<|QG ?_
  have s1:=Js x
  have s2:=Jo x
  have s3:=Js y
  have s4:=Jo y
  have m1:=Wd x.num y.den
  have m2:=Wd y.num x.den
  have m3:=Wd (x.den:Int) y.den
  have m4:=Wd x.num y.num
  have m5:=OH (x.num*y.den) (y.num*x.den)
  have e5:(x.den:Int)*y.den≠0:=aK (K4 x) (K4 y)
  refine QB<|wE I<|QI I (λw F hF h9=>Ec hF (hx)) (λc44=>wE I<|QA (QT I I)<|QA (QT I I)<|Qb K9 (λb11=>Qb K9 (λb12=>QO (vs:=[_,_]) I I I Jq I .u1 .h2 wP<|QO (vs:=[_,_]) I I I Jq I .here .h2 wP<|wG<|wJ I<|QI I (λw F hF h9=>Ec hF (hy)) (λc49=>wE I<|QA (QT I I)<|QA (QT I I)<|Qb K9 (λb13=>Qb K9 (λb14=>QO (vs:=[_,_]) I I I Jq I .u1 .h2 wP<|QO (vs:=[_,_]) I I I Jq I .here .h2 wP<|QE<|QC ?_))))))
  refine QG<|JO wK mixed y0<|QK (QJ (vs:=[_,_]) I Jq .u3 .h2 rfl)<|QK (QJ (vs:=[_,_]) I Jq .here .h2 rfl)<|QN I (λw F hF h9=>DV hF (h9.1.2.1) (h9.2.2) O O) (λc54=>QK (QJ (vs:=[_,_]) I Jq .u1 .h2 rfl)<|QK (QJ (vs:=[_,_]) I Jq .u2 .h2 rfl)<|QN I (λw F hF h9=>DV hF (h9.1.2.1) (h9.1.1.2.2) O O) (λc57=>QN I (λw F hF h9=>QCb hF (h9.1.2) (h9.2) O O) (λc58=>QK (QJ (vs:=[_,_]) I Jq .u2 .h2 rfl)<|QK (QJ (vs:=[_,_]) I Jq .here .h2 rfl)<|QN I (λw F hF h9=>DV hF (h9.1.1.1.1.2.2) (h9.1.1.1.2.2) O O) (λc61=>QN I (λw F hF h9=>NU hF (h9.1.2) (h9.2) (e5) O O) (λ_=>QK (QF I)<|Q6<|QC<|QY ?_)))))
  exact wL I I (by rw[Bl]) wh
theorem QGE{y:Rat}(hF:Fits F w)(hx:JL x<=100000)(hy:JL y<=100000):Qe Tryz.prog 20 [tx (Je x),tx (Je y)] w F (tx (Je (x*y))):=by
 refine QS.intro (G:=λF=>True) Tryz.func20 rfl wc rfl rfl hF wh<|wI<|wH rfl<|wJ rfl<|QI rfl (λw F hF hT=>Cw hF (hx)) (λc17=>JQ _ (λw F hF h9=>h9.2) (λp17=>wE rfl<|QA (QT rfl rfl)<|QA (QT rfl rfl)<|QA (QT rfl rfl)<|wF rfl<|wF rfl<|wH rfl<|wJ rfl<|QI rfl (λw F hF h9=>Cw hF (hy)) (λc23=>JQ _ (λw F hF h9=>h9.2) (λp23=>?_))))
 refine wE I<|QA (QT I I)<|QA (QT I I)<|QA (QT I I)<|wF I<|wF I<|wH I<|QG<|wJ I<|wE I ?_
 refine Q3 (t:=28) rfl (λhb28=>?_) (λhb28=>?_)
 ·
  refine QM I I<|wE I<|QA (Qp I I I)<|QE<|QC ?_
  refine QR I (λhc=>?_) (λhc=>?_)
  ·
   refine QG ?_
   obtain⟨a1,a2,a3,a4⟩:=p17 hb28
   obtain⟨b1,b2,b3,b4⟩:=p23 hc
   have xd:=x.den_pos
   have yd:=y.den_pos
   have e1:(x.num*y.den).natAbs<1000000000*1000000000:=by rw[aB];exact ak a3 O
   have e2:(y.num*x.den).natAbs<1000000000*1000000000:=by rw[aB];exact ak b3 O
   have e3:(x.num*y.num).natAbs<1000000000*1000000000:=by rw[aB];exact ak a3 b3
   have e4:((x.den:Int)*y.den).natAbs<1000000000*1000000000:=by rw[aB];exact ak O O
   have e5:(x.den:Int)*y.den≠0:=by have h1:=K4 x;have h2:=K4 y;exact aK h1 h2
   rw[a1,a2,b1,b2]
   refine QB<|wE I<|wE I<|QA (PN I I O)<|wE I<|wE I<|QA (PN I I O)<|QI I (λw F hF h9=>QDx hF O O (e5)) (λ_=>wH I<|QY ?_)
   exact wL I I (by rw[BU]) wh
  ·
   refine QQ<|QC<|QG ?_
   have s1:=Js x
   have s2:=Jo x
   have s3:=Js y
   have s4:=Jo y
   have m1:=Wd x.num y.den
   have m2:=Wd y.num x.den
   have m3:=Wd (x.den:Int) y.den
   have m4:=Wd x.num y.num
   have m5:=OH (x.num*y.den) (y.num*x.den)
   have e5:(x.den:Int)*y.den≠0:=aK (K4 x) (K4 y)
   refine QB<|wE I<|QI I (λw F hF h9=>Ec hF (hx)) (λc40=>wE I<|QA (QT I I)<|QA (QT I I)<|Qb K9 (λb11=>Qb K9 (λb12=>QO (vs:=[_,_]) I I I Jq I .u1 .h2 wP<|QO (vs:=[_,_]) I I I Jq I .here .h2 wP<|wG<|wJ I<|QI I (λw F hF h9=>Ec hF (hy)) (λc45=>wE I<|QA (QT I I)<|QA (QT I I)<|Qb K9 (λb13=>Qb K9 (λb14=>QO (vs:=[_,_]) I I I Jq I .u1 .h2 wP<|QO (vs:=[_,_]) I I I Jq I .here .h2 wP<|QE<|QC ?_))))))
   refine QG<|JO wK mixed y0<|QK (QJ (vs:=[_,_]) I Jq .u3 .h2 rfl)<|QK (QJ (vs:=[_,_]) I Jq .u1 .h2 rfl)<|QN I (λw F hF h9=>DV hF (h9.1.2.1) (h9.2.1) O O) (λc50=>QK (QJ (vs:=[_,_]) I Jq .u2 .h2 rfl)<|QK (QJ (vs:=[_,_]) I Jq .here .h2 rfl)<|QN I (λw F hF h9=>DV hF (h9.1.1.2.2) (h9.1.2.2) O O) (λc53=>QN I (λw F hF h9=>NU hF (h9.1.2) (h9.2) (e5) O O) (λ_=>QK (QF I)<|Q6<|QC<|QY ?_)))
   exact wL I I (by rw[BU]) wh
 ·
  refine Qc I I I<|QA (Qj I I I)<|wG<|Ko I<|QQ<|QC<|QG ?_
  have s1:=Js x
  have s2:=Jo x
  have s3:=Js y
  have s4:=Jo y
  have m1:=Wd x.num y.den
  have m2:=Wd y.num x.den
  have m3:=Wd (x.den:Int) y.den
  have m4:=Wd x.num y.num
  have m5:=OH (x.num*y.den) (y.num*x.den)
  have e5:(x.den:Int)*y.den≠0:=aK (K4 x) (K4 y)
  refine QB<|wE I<|QI I (λw F hF h9=>Ec hF (hx)) (λc40=>wE I<|QA (QT I I)<|QA (QT I I)<|Qb K9 (λb11=>Qb K9 (λb12=>QO (vs:=[_,_]) I I I Jq I .u1 .h2 wP<|QO (vs:=[_,_]) I I I Jq I .here .h2 wP<|wG<|wJ I<|QI I (λw F hF h9=>Ec hF (hy)) (λc45=>wE I<|QA (QT I I)<|QA (QT I I)<|Qb K9 (λb13=>Qb K9 (λb14=>QO (vs:=[_,_]) I I I Jq I .u1 .h2 wP<|QO (vs:=[_,_]) I I I Jq I .here .h2 wP<|QE<|QC ?_))))))
  refine QG<|JO wK mixed y0<|QK (QJ (vs:=[_,_]) I Jq .u3 .h2 rfl)<|QK (QJ (vs:=[_,_]) I Jq .u1 .h2 rfl)<|QN I (λw F hF h9=>DV hF (h9.1.2.1) (h9.2.1) O O) (λc50=>QK (QJ (vs:=[_,_]) I Jq .u2 .h2 rfl)<|QK (QJ (vs:=[_,_]) I Jq .here .h2 rfl)<|QN I (λw F hF h9=>DV hF (h9.1.1.2.2) (h9.1.2.2) O O) (λc53=>QN I (λw F hF h9=>NU hF (h9.1.2) (h9.2) (e5) O O) (λ_=>QK (QF I)<|Q6<|QC<|QY ?_)))
  exact wL I I (by rw[BU]) wh
theorem QCw(hF:Fits F w)(hl:s.length<=1000000)(h1:X6 (aa (s.take (ahead ZC s)) [45])=true)(h2:ahead ZC s<s.length->X6 (aa (s.drop (ahead ZC s+1)) [45])=true):QS Tryz.prog 97 [tx s] w F Ri.v2 (λc F=>H5 F c.1 (Yw (s.take (ahead ZC s)))/\(ahead ZC s<s.length->H5 F c.2 (Yw (s.drop (ahead ZC s+1))))):=by
 have hah:=Ub ZC s
 refine QS.intro (G:=λF=>True) Tryz.func97 rfl wc rfl rfl hF wh<|wI<|Qb K9 (λb2=>Qb K9 (λb3=>wG<|wJ rfl<|wH rfl<|wJ rfl<|QI rfl (λw F hF hT=>Tn hF O) (λ_=>wH rfl<|QG<|wJ rfl<|wE rfl ?_)))
 refine QA (X7 I ZQ)<|QA (QZ I I I)<|QE<|QC ?_
 refine QR I (λhc=>?_) (λhc=>?_)
 ·
  have hd:ahead ZC s=s.length:=by have:(ahead ZC s:Int)=(s.length:Int):=(by simpa using hc);omega
  refine wJ I<|QI I (λw F hF h9=>DW hF (by rw[hd,aA]at h1;exact h1) O) (λc14=>QI I (λw F hF h9=>RG hF wa) (λc15=>QO (vs:=[_,_]) I I I Jq I .u1 .h2 wP<|QO (vs:=[_,_]) I I I Jq I .here .h2 wP<|wG<|QY ?_))
  exact JZ ((c14,c15):Ri×Ri) rfl (.JW (c:=[_,_]) I Jq .u1 (.JW (c:=[_,_]) I Jq .here .nil)) (rfl) (λF h9=>⟨by rw[hd,aA];exact h9.1.2,λg=>O⟩)
 ·
  have hd:ahead ZC s<s.length:=by rcases bj (ahead ZC s) s.length with g | g;exact g;exact absurd (show ahead ZC s=s.length by omega) (λe=>by rw[e]at hc;simp at hc)
  refine QQ<|QC<|QG<|JO (.cons _ (.cons _ .slnil)) mixed y0<|QK (QD I)<|QK (QD I)<|QK (Ee (ahead ZC s) rfl rfl ZQ I O)<|QN I (λw F hF h9=>DW hF (h1) (by rw[ao];omega)) (λc19=>QK (QD I)<|QK (QD I)<|QK (Qu I I O)<|QK (GW ((ahead ZC s+1)) I I ZQ wA O)<|QN I (λw F hF h9=>DW hF (h2 hd) (by rw[aG];omega)) (λc24=>JV (vs:=[_,_]) I I I Jq I .u1 (.cons _ .slnil) (λ_ h=>h.1.1) .h2 wP<|JV (vs:=[_,_]) I I I Jq I .here (.cons _ .slnil) (λ_ h=>h.1.1) .h2 wP<|Q6<|QC<|QY ?_))
  exact JZ ((c19,c24):Ri×Ri) rfl (.JW (c:=[_,_]) I Jq .u1 (.JW (c:=[_,_]) I Jq .here .nil)) (rfl) (λF h9=>⟨h9.1.2,λ_=>h9.2⟩)
theorem zR{l:List UInt8}(h:(!Xx l)=false):0<l.length:=by
 rcases aC l.length with g | g
 ·rw[ai g]at h;simp[Xx]at h
 ·exact g
theorem QFP{p:UInt8->Bool}(h:∀c∈s,p c=true):s.takeWhile p=s:=by
 induction s with
 |nil=>rfl
 |cons c r ih=>rw[ba (h c we),ih (λd hd=>h d (by simp[hd]))]
theorem QCY{l:List UInt8}(h:X6 l=true):sz (JJ l:Int)<=4*l.length:=by
 rw[XL]
 have h1:=Gb h
 have h2:10^l.length<=2^(4*l.length):=by rw[ea];exact bH wa _
 simp;omega
theorem QDS(s:List UInt8):(YO 47 s).1=s.take (ahead ZC s)/\(YO 47 s).2.1=s.drop (ahead ZC s+1)/\(YO 47 s).2.2=decide (ahead ZC s<s.length):=by
 have hf:(λc:UInt8=>!ZC c)=λc=>c != 47:=by funext c;simp[ZC,bne]
 have h1:=WR (λc:UInt8=>c != 47) s
 have ha:ahead ZC s=(s.takeWhile (λc=>c != 47)).length:=by unfold ahead;rw[hf]
 rw[ha]
 by_cases hc:s.contains 47=true
 ·have e:YO 47 s=(s.takeWhile (· != 47),(s.dropWhile (· != 47)).drop 1,true):=by unfold YO;rw[if_pos hc]
  rw[e]
  obtain⟨r,hr⟩:=NF (show(47:UInt8)∈s by simpa using hc)
  have hd:=h1.2
  rw[hr]at hd
  refine⟨h1.1.symm,?_,?_⟩
  ·show(s.dropWhile (· != 47)).drop 1=_
   rw[hr,<-bc,hd]
  ·have:(s.takeWhile (λc=>c != 47)).length<s.length:=by
    have:=congrArg bV hd
    rw[aG,aM]at this;omega
   simp[this]
 ·have e:YO 47 s=(s,[],false):=by unfold YO;rw[if_neg hc]
  rw[e]
  have h2:s.takeWhile (λc=>c != 47)=s:=by
   refine QFP λc hm=>?_
   have:c≠47:=by rintro rfl;exact hc (by simpa using hm)
   simpa using this
  rw[h2]
  simp
theorem QDj(s:List UInt8):aa (YO 47 s).1 [45]=(YO 47 (aa s [45])).1/\ar (YO 47 s).1 [45]=ar s [45]/\(YO 47 s).2=(YO 47 (aa s [45])).2:=by
 cases s with
 |nil=>exact⟨rfl,rfl,rfl⟩
 |cons c r =>
  by_cases hc:c=45
  ·subst hc
   have e:aa (45::r) [45]=r:=rfl
   rw[e]
   unfold YO
   have h0:((45:UInt8)::r).contains 47=r.contains 47:=we
   rw[h0]
   split
   ·exact⟨rfl,rfl,rfl⟩
   ·exact⟨rfl,rfl,rfl⟩
  ·have hp:ar (c::r) [45]=false:=by
    rw[BP we];simpa using hc
   have e:aa (c::r) [45]=c::r:=by unfold aa;rw[if_neg (by rw[hp];decide)]
   rw[e]
   have e2:∀l:List UInt8,ar l [45]=false->aa l [45]=l:=λl h=>by unfold aa;rw[if_neg (by rw[h];decide)]
   have h3:ar (YO 47 (c::r)).1 [45]=false:=by
    unfold YO
    split
    ·by_cases h47:c=47
     ·subst h47;rfl
     ·rw[ba (by simpa using h47),BP we];simpa using hc
    ·exact hp
   exact⟨e2 _ h3,by rw[h3,hp],rfl⟩
theorem QFl(h1:xr s=false)(h2:xK s=false)(hk:ahead ZC (aa s [45])<(aa s [45]).length):X6 ((aa s [45]).take (ahead ZC (aa s [45])))=true/\X6 (Pj s)=true:=by
 have hs:Tk s=true:=by simp[Tk];exact hk
 simp only[xr,aF,bI]at h1
 simp only[xK,hs,Bool.true_and,aF,bI]at h2
 exact⟨Wa h1.1,Wa h2.1⟩
theorem QDQ(s:List UInt8):Au s=Jw s:=by
 obtain⟨t1,t2,t3⟩:=QDj s
 obtain⟨c1,c2,c3⟩:=QDS (aa s [45])
 have t4:(YO 47 s).2.1=Pj s:=by rw[t3,c2];rfl
 have t5:(YO 47 s).2.2=Tk s:=by rw[t3,c3];rfl
 have hlen:(aa s [45]).take (ahead ZC (aa s [45]))=(aa s [45]).take (ahead ZC (aa s [45])):=rfl
 have hk:((aa s [45]).take (ahead ZC (aa s [45]))).length=ahead ZC (aa s [45]):=by
  rw[ao];have:=Ub ZC (aa s [45]);omega
 unfold Jw DP Au CZ xr xK xp vG
 rw[t1,t2,t4,t5,c1,hk]
 generalize (aa s [45]).take (ahead ZC (aa s [45]))=a
 generalize Pj s=d
 generalize Tk s=f
 generalize ar s [45]=n
 have e:(!Xx a||(n&&a==[48])||(f&&(!Xx d||d==[48]||d==[49])))=((!Xx a||(n&&a==[48]))||(f&&(!Xx d||(d==[48]||d==[49])))):=by rw[Bool.or_assoc (!Xx d)]
 rw[e]
 cases (!Xx a||(n&&a==[48]))<;>cases (f&&(!Xx d||(d==[48]||d==[49])))<;>rfl
theorem QCx(hF:Fits F w)(hl:s.length<=9223372036854775807):Qe Tryz.prog 18 [tx s] w F (.int .i64 (Jw s)):=by
 rw[<-QDQ]
 have hln:(aa s [45]).length<=s.length:=Ta _ _
 have hah:=Ub ZC (aa s [45])
 refine QS.intro (G:=λF=>True) Tryz.func18 rfl wc rfl rfl hF wh<|wI<|wH rfl<|wJ rfl<|wF rfl<|QE<|QC ?_
 refine YV [(0,_)] [(3,tx (aa s [45]))] wO ?_ ?_
 ·
  refine YV [(0,_),(3,_)] [(16,.bool (ar s [45]))] wP ?_ ?_
  ·
   refine QB<|wE I<|QA (X7 I ZQ)<|QA (QZ I I I)<|wE I ?_
   refine Q3 (t:=12) rfl (λhb12=>?_) (λhb12=>?_)
   ·
    refine QM I I<|wE I<|QM I I<|QA (Gc (i:=0) rfl rfl ZQ (by have:=wM hb12;omega))<|QM I I<|QA (QZ I I I)<|QA (Qp I I I)<|QE ?_
    exact J3 ⟨rfl,rfl,(congrArg (λb=>some (af b)) (by have h0:0<s.length:=(by have:=wM hb12;omega);rw[BP h0];exact RO I)),trivial⟩ wK wi
   ·
    refine Qc I I I<|Qc I I I<|Qc I I I<|QA (Qj I I I)<|QE ?_
    exact J3 ⟨rfl,rfl,(congrArg (λb=>some (af b)) (by have h0:s.length=0:=(by have:=wN hb12;omega);rw[ai h0];rfl)),trivial⟩ wK wi
  ·
   simp only[ab,ae]
   refine QR I (λhc=>?_) (λhc=>?_)
   ·
    refine QB<|wE I<|QA (GW (1) rfl rfl ZQ I (Rr hc))<|wF I<|QE ?_
    exact J3 ⟨rfl,(congrArg (λl=>some (tx l)) (by unfold aa;rw[if_pos hc];rfl)),trivial⟩ wK wi
   ·
    refine QQ ?_
    exact J3 ⟨rfl,(congrArg (λl=>some (tx l)) (by unfold aa;rw[hc];rfl)),trivial⟩ wK wi
 ·
  simp only[ab,ae]
  refine wJ I<|QI I (λw F hF hT=>Tn hF O) (λ_=>wH I<|QG ?_)
  refine YV [(3,_),(4,_)] [(36,.bool (xr s))] wP ?_ ?_
  ·
   refine QB<|wE I<|wE I<|QA (Ee ((ahead ZC (aa s [45]))) I I ZQ I O)<|QI I (λw F hF h9=>QCc hF (by rw[ao];omega)) (λ_=>QA (YN I)<|wE I ?_)
   refine Q3 (t:=26) rfl (λhb26=>?_) (λhb26=>?_)
   ·
    refine Qc I I I<|Qc I I I<|Qc I I I<|Qc I I I<|J2 I I<|J2 I I<|J2 I I<|J2 I I<|Qc I I I<|QA (Qp I I I)<|QE ?_
    exact J3 ⟨rfl,rfl,(congrArg (λb=>some (af b)) (by simp[xr]at hb26 ⊢;simp[hb26])),trivial⟩ wK wj
   ·
    refine QM I I<|wE I<|QM I I<|QA (Gc (i:=0) rfl rfl QCa (by have h1:=zR hb26;rw[ao]at h1;omega))<|QM I I<|QA (QZ I I I)<|QM I I<|wE I ?_
    refine Q3 (t:=30) rfl (λhb30=>?_) (λhb30=>?_)
    ·
     refine QM I I<|wE I<|QM I I<|wE I<|QM I I<|QA (Ee ((ahead ZC (aa s [45]))) I I ZQ I O)<|QM I I<|QA (Vr I I)<|QM I I<|QA (Qp I I I)<|QA (Qj I I I)<|QE ?_
     exact J3 ⟨rfl,rfl,(congrArg (λb=>some (af b)) (by have h0:0<s.length:=(by have h1:=zR hb26;rw[ao]at h1;omega);have hp:ar s [45]=true:=(by rw[BP h0,<-RO (z:=45) rfl];exact hb30);simp[xr]at hb26 ⊢;simp[hb26,hp])),trivial⟩ wK wj
    ·
     refine Qc I I I<|Qc I I I<|Qc I I I<|Qc I I I<|QM I I<|QA (Qj I I I)<|QA (Qj I I I)<|QE ?_
     exact J3 ⟨rfl,rfl,(congrArg (λb=>some (af b)) (by have h0:0<s.length:=(by have h1:=zR hb26;rw[ao]at h1;omega);have hp:ar s [45]=false:=(by rw[BP h0,<-RO (z:=45) rfl];exact hb30);simp[xr]at hb26 ⊢;simp[hb26,hp])),trivial⟩ wK wj
  ·
   simp only[ab,ae]
   refine QR I (λhc=>?_) (λhc=>?_)
   ·
    have hb1:xr s=true:=hc
    refine wI<|wH I<|QY ?_
    exact wL I I (congrArg (ah .i64) (by simp[Au,hb1])) wh
   ·
    have hb1:xr s=false:=hc
    refine QQ<|QC<|QG ?_
    refine YV [(3,_),(4,_)] [(62,.bool (xK s))] wP ?_ ?_
    ·
     refine QB<|wE I<|wE I<|QA (X7 I ZQ)<|QA (QZ I I I)<|wE I ?_
     refine Q3 (t:=41) rfl (λhb41=>?_) (λhb41=>?_)
     ·
      refine QM I I<|wE I<|QM I I<|wE I<|QM I I<|QA (Qu I I (by first | omega | (simp only[decide_eq_true_eq]at *;omega)))<|QM I I<|QA (GW (((ahead ZC (aa s [45]))+1)) I I ZQ wA (by have:=wM hb41;omega))<|QM I I<|QI I (λw F hF h9=>QCc hF (by rw[aG];omega)) (λ_=>QM I I<|QA (YN I)<|QM I I<|wE I ?_)
      refine Q3 (t:=48) rfl (λhb48=>?_) (λhb48=>?_)
      ·
       refine Qc I I I<|Qc I I I<|Qc I I I<|Qc I I I<|Qc I I I<|QM I I<|QA (Qp I I I)<|QM I I<|wE I<|Qc I I I<|Qc I I I<|Qc I I I<|Qc I I I<|Qc I I I<|QM I I<|QA (Qp I I I)<|QA (Qp I I I)<|QE ?_
       exact J3 ⟨rfl,rfl,(congrArg (λb=>some (af b)) (by have h1:Tk s=true:=(by simp[Tk];simpa using hb41);simp[xK,h1];simp at hb48;exact .inl hb48)),trivial⟩ wK wj
      ·
       refine QM I I<|wE I<|QM I I<|wE I<|QM I I<|QA (Qu I I (by first | omega | (simp only[decide_eq_true_eq]at *;omega)))<|QM I I<|QA (GW (((ahead ZC (aa s [45]))+1)) I I ZQ wA (by have:=wM hb41;omega))<|QM I I<|QA (Vr I I)<|QM I I<|QA (Qj I I I)<|QM I I<|wE I ?_
       refine Q3 (t:=55) rfl (λhb55=>?_) (λhb55=>?_)
       ·
        refine Qc I I I<|Qc I I I<|Qc I I I<|Qc I I I<|Qc I I I<|QM I I<|QA (Qp I I I)<|QA (Qp I I I)<|QE ?_
        exact J3 ⟨rfl,rfl,(congrArg (λb=>some (af b)) (by have h1:Tk s=true:=(by simp[Tk];simpa using hb41);simp[xK,h1];exact .inr (.inl (by simpa[Pj]using hb55)))),trivial⟩ wK wj
       ·
        refine QM I I<|wE I<|QM I I<|wE I<|QM I I<|QA (Qu I I (by first | omega | (simp only[decide_eq_true_eq]at *;omega)))<|QM I I<|QA (GW (((ahead ZC (aa s [45]))+1)) I I ZQ wA (by have:=wM hb41;omega))<|QM I I<|QA (Vr I I)<|QM I I<|QA (Qj I I I)<|QA (Qp I I I)<|QE ?_
        exact J3 ⟨rfl,rfl,(congrArg (λb=>some (af b)) (by have h1:Tk s=true:=(by simp[Tk];simpa using hb41);simp at hb48 hb55;simp[xK,h1,Pj,hb48,hb55])),trivial⟩ wK wj
     ·
      refine Qc I I I<|Qc I I I<|Qc I I I<|Qc I I I<|Qc I I I<|Qc I I I<|Qc I I I<|J2 I I<|J2 I I<|J2 I I<|J2 I I<|J2 I I<|Qc I I I<|Qc I I I<|J2 I I<|J2 I I<|J2 I I<|J2 I I<|J2 I I<|Qc I I I<|QA (Qj I I I)<|QE ?_
      exact J3 ⟨rfl,rfl,(congrArg (λb=>some (af b)) (by have h1:Tk s=false:=(by simp[Tk];simpa using hb41);simp[xK,h1])),trivial⟩ wK wi
    ·
     simp only[ab,ae]
     refine QR I (λhc=>?_) (λhc=>?_)
     ·
      have hb2:xK s=true:=hc
      refine wI<|wH I<|QY ?_
      exact wL I I (congrArg (ah .i64) (by simp[Au,hb1,hb2])) wh
     ·
      have hb2:xK s=false:=hc
      refine QQ<|QC<|QG ?_
      refine YV [(3,_),(4,_)] [(72,.bool (xp s))] wP ?_ ?_
      ·
       refine QB<|wE I<|QA (QZ I I I)<|wE I ?_
       refine Q3 (t:=65) rfl (λhb65=>?_) (λhb65=>?_)
       ·
        refine Qc I I I<|Qc I I I<|Qc I I I<|Qc I I I<|Qc I I I<|Qc I I I<|QA (Qp I I I)<|QE ?_
        exact J3 ⟨rfl,rfl,(congrArg (λb=>some (af b)) (by have:=wM hb65;simp[xp];left;omega)),trivial⟩ wK wi
       ·
        refine QM I I<|wE I<|QM I I<|QA (X7 I ZQ)<|QM I I<|wE I<|QM I I<|QA (Xw I I O)<|QM I I<|QA (Xw I I O)<|QM I I<|QA (QZ I I I)<|QA (Qj I I I)<|QE ?_
        exact J3 ⟨rfl,rfl,(congrArg (λb=>some (af b)) (by rw[au];have:=wN hb65;simp[xp,Pj];omega)),trivial⟩ wK wi
      ·
       simp only[ab,ae]
       refine QR I (λhc=>?_) (λhc=>?_)
       ·
        have hb3:xp s=true:=hc
        refine wI<|wH I<|QY ?_
        exact wL I I (congrArg (ah .i64) (by simp[Au,hb1,hb2,hb3])) wh
       ·
        have hb3:xp s=false:=hc
        have hk6:ahead ZC (aa s [45])<=600:=by simp[xp]at hb3;exact hb3.1
        refine QQ<|QC<|QG<|wJ I<|wE I<|QA (X7 I ZQ)<|QA (QZ I I I)<|QE<|QC ?_
        refine QR I (λhc=>?_) (λhc=>?_)
        ·
         have hk:ahead ZC (aa s [45])<(aa s [45]).length:=by have:=wM hc;omega
         obtain⟨da,dd⟩:=QFl hb1 hb2 hk
         refine wJ I<|QI I (λw F hF h9=>QCw hF (s:=(aa s [45])) (by have h6:(Pj s).length<=600:=(by simp[xp]at hb3;exact hb3.2);have h7:(Pj s).length=(aa s [45]).length - (ahead ZC (aa s [45])+1):=(by unfold Pj;rw[aG]);omega) (by rw[VY da];exact da) (λ_=>by rw[show(List.drop (ahead ZC (aa s [45])+1) (aa s [45]))=Pj s from rfl,VY dd];exact dd)) (λc79=>wE rfl<|QA (QT rfl rfl)<|QA (QT rfl rfl)<|Qb K9 (λb5=>Qb K9 (λb6=>QO (vs:=[_,_]) rfl rfl rfl Jq rfl .u1 .h2 wP<|QO (vs:=[_,_]) rfl rfl rfl Jq rfl .here .h2 wP<|wG<|QG<|XQ _ (λw F hF h=>av h.2.1.p (av (h.2.2 hk).p (av h.2.1.1.2.1 (h.2.2 hk).1.2.1))) (λpp=>?_))))
         obtain⟨pa,pd,na,nd⟩:=pp
         rw[YF da]at pa
         have pd2:=pd
         rw[show Yw ((aa s [45]).drop (ahead ZC (aa s [45])+1))=JJ (Pj s)from YF dd]at pd2
         have la:=pa.len
         have ld:=pd2.len
         have sa:=QCY da
         have sd:=QCY dd
         have h600:(Pj s).length<=600:=by simp[xp]at hb3;exact hb3.2
         rw[ao]at sa
         refine QB<|QA (QH I VD Jf)<|QA (Qg I Jf .u1 (.skip .h1))<|QA (QH I VD Jf)<|QA (Qg I Jf .here (.skip .h1)) ?_
         refine QI I (λw F hF h9=>dP hF (a:=c79.1.l) (b:=c79.2.l) (ra:=c79.1.r) (rb:=c79.2.r) h9.2.1.1 ((h9.2.2 hk).1) (pa.dg) (pd.dg) (pa.nz) (pd.nz) O O) (λc86=>?_);rcases c86 with ⟨v86,l86⟩;dsimp only
         refine JQ _ (λw F hF ⟨⟨⟨hT,_⟩,h79⟩,⟨h86,h86p⟩⟩=>av h86.2 h86p) (λp86=>wF rfl<|QE<|QC ?_)
         refine YV [] [(95,.bool (vG s))] trivial ?_ ?_
         ·
          have hgc:dv B9 l86=(aQ (JJ ((aa s [45]).take (ahead ZC (aa s [45])))) (JJ (Pj s)):Nat):=by
           rw[p86.2.2.2,QAb pa pd2];rfl
          have hone:=kJ p86.2.1 p86.2.2.1
          have hsl:Tk s=true:=by simp[Tk];exact hk
          refine QB<|wE I<|QA (Qh I Q2)<|QA (QZ I I I)<|wE I ?_
          refine Q3 (t:=90) rfl (λhb90=>?_) (λhb90=>?_)
          ·
           refine Qc I I I<|Qc I I I<|Qc I I I<|Qc I I I<|QA (Qp I I I)<|QE ?_
           exact J3 ⟨(congrArg (λb=>some (af b)) (by have h1:¬l86.length=1:=(by simp at hb90;omega);rw[au];simp[vG,hsl];intro g;exact h1 (hone.2 (by rw[hgc,g];rfl)).1)),trivial⟩ wK wi
          ·
           have hn1:v86.n=1:=by simp at hb90;omega
           refine QM I I<|wE I<|QM I I<|QA (Q9 (n:=v86.n) (0) (λF h9=>(h9.2.1).1) rfl wA Q2 JR O)<|QM I I<|QA (Jd (n:=v86.n) ((0)*1) (λF h9=>(h9.2.1).1) O rfl JR (XR (o:=l86) O))<|QM I I<|QA (QZ I I I)<|QA (Qj I I I)<|QE ?_
           exact J3 ⟨(congrArg (λb=>some (af b)) (by have h1:l86.length=1:=O;rw[au];simp[vG,hsl];exact not_congr ⟨λe=>by have h2:=hone.1 ⟨h1,e⟩;rw[hgc]at h2;omega,λe=>(hone.2 (by rw[hgc,e];rfl)).2⟩)),trivial⟩ wK wi
         ·
          simp only[ab,ae]
          refine QR I (λhc=>?_) (λhc=>?_)
          ·
           have hg4:vG s=true:=hc
           refine wI<|wH I<|QY ?_
           exact wL I I (congrArg (ah .i64) (by simp[Au,hb1,hb2,hb3,hg4])) wh
          ·
           have hg4:vG s=false:=hc
           refine QQ<|QC<|wI<|wH I<|QY ?_
           exact wL I I (congrArg (ah .i64) (by simp[Au,hb1,hb2,hb3,hg4])) wh
        ·
         have hg4:vG s=false:=by have:=wN hc;simp[vG,Tk];intro g;omega
         refine QQ<|QC<|wI<|wH I<|QY ?_
         exact wL I I (congrArg (ah .i64) (by simp[Au,hb1,hb2,hb3,hg4])) wh
theorem QD4(hF:Fits F w)(hl:s.length<=1000000):Qe Tryz.prog 18 [tx s] w F (.int .i64 (Jw s)) :=
 QCx hF (aH hl wa)
theorem QDv(hF:Fits F w):Qe Tryz.prog 19 [tx (Je x)] w F (.int .i64 (ED x.num)):=by
 have:=QFV (s:=Je x) hF
 rw[QDs]at this;exact this
section
open Go.RowKit Go.ChangeShapes Go.WideShapes Ig
def QI1(t:EE):Prop:=t.f.length<=9223372036854775807/\t.k.length<=9223372036854775807
end
section
open Go.RowKit Go.ChangeShapes Go.WideShapes Ig
section
variable{H:Type}{enc:TypeId×Value->H}{w:World}{b:Nat}{v:Value}{d:DataW H}{p:List MemPlace}
set_option maxRecDepth 100000 in
theorem QCz{t:TypeId}(ht:Tryz.prog.underlying t=some .string)(hv:bT Tryz.prog w .any b t v)(h:bY enc Tryz.prog w 0 (λ_=>true) true t v d p):∃l,v=tx l/\l.length<=9223372036854775807:=by
 obtain⟨s,rfl,_,_,hs⟩:=ChangeMaps.open_string ht hv h
 refine⟨s.data.toList,by simp[tx],?_⟩
 unfold maxLen at hs
 have:s.data.toList.length=s.size:=we
 omega
end
end
theorem dM(u:Nat){k:Nat}(hk:0<k)(h:(aD u).length<=k):sz (u:Int)<=4*k:=by
 rw[Lib.decDigits_length]at h
 rw[XL,bK]
 have h1:¬10^k<=u:=λe=>by have:=(AI (u:=u) hk).2 e;omega
 have h2:10^k<=16^k:=bH wa _
 have h3:(16:Nat)^k=2^(4*k):=by rw[ea]
 rw[<-h3]
 exact Nat.lt_of_lt_of_le (Nat.lt_of_not_le h1) h2
theorem QCZ(z:Int){k:Nat}(hk:0<k)(h:(Zf z).length<=k):sz z<=4*k:=by
 have e:sz z=sz (z.natAbs:Int):=by unfold sz;simp
 rw[e]
 refine dM _ hk ?_
 rcases bw z 0 with g | g
 ·rw[Kh g,aM]at h;omega
 ·rwa [XV g]at h
theorem QFR(x:Rat){k:Nat}(hk:0<k)(h:(Je x).length<=k):JL x<=4*k:=by
 unfold JL
 unfold Je at h
 split at h
 ·rename_i hd
  rw[hd]
  exact Nat.max_le.2 ⟨QCZ _ hk h,aH (show sz ((1:Nat):Int)<=1 by decide) O⟩
 ·rw[aJ,aM]at h
  exact Nat.max_le.2 ⟨QCZ _ hk O,dM _ hk O⟩
theorem QDo(h:Jw s=0){k:Nat}(hk:0<k)(hl:s.length<=k):JL (Qs s)<=4*k :=
 QFR _ hk (by rw[<-(XT h).1];exact hl)
theorem QAR{r:Rat}(h:JL r<=k)(hk:k<=1800):Jj r=false:=by
 unfold Jj S9
 have a:∀z:Int,sz z<=k->decide (lim<=z.natAbs)=false:=λz hz=>by
  have h1:=(XL z 1800).1 O
  have h2:=zB
  refine decide_eq_false λe=>?_
  exact absurd (Nat.lt_trans (Nat.lt_of_le_of_lt e h1) h2) (bU _)
 rw[a _ (aH (Js r) h),a _ (aH (Jo r) h)];rfl
def xh(a:Rat)(m:Nat):List Rat:=(List.range m).map λk=>a*(((k+1:Nat):Int):Rat) / (((m:Nat):Int):Rat)
theorem zD(a:Rat)(m:Nat):(xh a m).length=m:=by simp[xh]
theorem QB9{a:Rat}{m:Nat}(h:k<m):el (xh a m) k=a*(((k+1:Nat):Int):Rat) / (((m:Nat):Int):Rat):=by unfold xh;rw[Xk _ h]
def gB(sg n:Int):Bool:=decide (sg<=0)||(decide (n<1)||decide (n>1000))
def cU(s:List UInt8)(n:Int):Int:=if Jw s≠0 then Jw s else if gB (ED (Qs s).num) n=true then 3 else 0
theorem zC{k:Nat}(h:k<=1000):JL (((k:Nat):Int):Rat)<=12:=by
 have h1:=GV ((k:Nat):Int)
 have h2:sz ((k:Nat):Int)<=11:=(XL _ 11).2 (by rw[bK];omega)
 omega
theorem QF7(r s:Rat)(h:s.num≠0):JL (r / s)<=JL r+JL s:=by
 rw[bC]
 exact aH (Z8 _ _) (Nat.add_le_add_left (NC h) _)
theorem QEg{a:Rat}{z:Nat}(hm:m<=1000)(ha:JL a<=z):∀x∈xh a m,JL x<=z+24:=λx hx=>by
 obtain⟨k,hk,rfl⟩:=bD hx
 rw[zD]at hk
 rw[<-JK (by rw[zD];exact hk),QB9 hk]
 have h1:=zC (k:=k+1) O
 have h2:=zC hm
 have h3:=QF7 (a*(((k+1:Nat):Int):Rat)) (((m:Nat):Int):Rat) (by show((m:Nat):Int)≠0;omega)
 have h4:=Z8 a (((k+1:Nat):Int):Rat)
 omega
theorem QC3{l:List (List UInt8)}(h:i<l.length)(k:decide ((el l i).length>14)=true):l.any (λs=>decide (s.length>14))=true:=List.any_eq_true.2 ⟨_,Q4 h,k⟩
structure LgJ(l:List (List UInt8)) where
 i:Nat
 le:i<=l.length
 no:∀j,j<i->¬(el l j).length>14
theorem LgJ.stop{l:List (List UInt8)}(s:LgJ l)(h:l.length<=s.i):l.any (λs=>decide (s.length>14))=false:=by
 cases e:l.any (λs=>decide (s.length>14))with
 |false=>rfl
 |true =>
  obtain⟨x,hx,k⟩:=List.any_eq_true.1 e
  obtain⟨j,hj,rfl⟩:=bD hx
  exact absurd (wM k) (by have:=s.no j O;rwa [JK hj]at this)
theorem QFd{q:Option Addr}{n c:Nat}{l:List (List UInt8)}(hF:Fits F w)(hR:Qy F q n 1 (l.map tx))(hn:l.length=n)(hb:n<=1000000000):Qe Tryz.prog 15 [.slice q n c] w F (.bool (l.any λs=>decide (s.length>14))):=by
 refine QS.intro (G:=λF=>Qy F q n 1 (l.map tx)) Tryz.func15 rfl wc rfl rfl hF (λF' hF'=>hR.le hF')<|wI<|wH rfl<|QG<|wI<|wH rfl<|QU<|ZK (ι:=LgJ l) [(0,_)] (λi=>[(3,.int .i64 ((i.i:Nat):Int))]) (λi=>l.length - i.i) (⟨0,ax _,λj h=>absurd h (Nat.not_lt_zero _)⟩) wO wO (λi=>?_)
 simp only[ab,ae]
 have hi:=i.le
 refine QG<|wJ I<|wE I<|QA (Qh I Yj)<|QA (QZ I I I)<|QE<|QC ?_
 refine QR I (λhc=>?_) (λhc=>?_)
 ·
  have hlt:i.i<l.length:=by have:=wM hc;omega
  refine QQ<|QC<|QG<|QU<|wJ I<|wE I<|QA (Q9 (n:=n) i.i wi rfl rfl Yj XA O)<|QA (Jd (n:=n) ((i.i)*1) wi O rfl XA (X8 (f:=tx) (l:=l) O))<|QA (X7 I QCa)<|QA (QZ I I I)<|QE<|QC ?_
  refine QR I (λhc=>?_) (λhc=>?_)
  ·
   have h15:(el l i.i).length>14:=by have:=wM hc;omega
   refine wI<|wH I<|QY ?_
   repeat (first | refine JA ?_ | refine Q5 ?_)
   exact wL I I (congrArg af (QC3 hlt (decide_eq_true h15))) wh
  ·
   have h15:¬(el l i.i).length>14:=by have:=wN hc;omega
   refine QQ<|Qk<|QC<|QB<|wE I<|QA (Qu I I O)<|wF I<|QE ?_
   exact Ql (⟨i.i+1,hlt,λj hj=>by rcases Nat.lt_succ_iff_lt_or_eq.1 hj with h | rfl;exact i.no j h;exact h15⟩) (by show l.length - (i.i+1)<l.length - i.i;omega) wP wK wi
 ·
  have hge:l.length<=i.i:=by have:=wN hc;omega
  refine Qz ?_
  repeat (first | refine QW ?_ | refine QP wc ?_)
  refine QX<|QC<|wI<|wH I<|QY ?_
  exact wL I I (congrArg af (i.stop hge)) wh
theorem QFg(hF:Fits F w)(hGl:JC F)(hs:s.length<=1000000):QS Tryz.prog 17 [tx s,.int .i64 n] w F (λ(c:Sr)=>.tuple #[c.v,.int .i64 (dQ (cU s n) (xh (Qs s) n.toNat)).1]) (λc F=>gX F c (dQ (cU s n) (xh (Qs s) n.toNat)).2):=by
 refine QS.intro (G:=λF=>JC F) Tryz.func17 rfl wc rfl rfl hF (λF' hF'=>hGl.le hF')<|wI<|wF rfl<|wH rfl<|QG<|wJ rfl<|QI rfl (λw F hF hGl=>Dg hF hGl O) (λ_=>wH rfl<|wJ rfl<|QA (QZ rfl rfl rfl)<|QE<|QC ?_)
 refine QR I (λhc2=>?_) (λhc2=>?_)
 ·
  have h13:=bne_iff_ne.1 hc2
  have hge0:cU s n=Jw s:=by unfold cU;rw[if_pos h13]
  refine wJ I<|wF I<|wH I<|QY ?_
  exact JZ ((⟨none,0,0⟩:Sr)) I (wC I I) (by rw[hge0,IQ h13]) (λF h9=>by rw[hge0,IQ h13];exact gX.nil F)
 ·
  have h13:=bne_eq_false_iff_eq.1 hc2
  have zs:=Yy h13
  refine QQ<|QC<|wJ I<|QI I (λw F hF h9=>Kr (r:=Qs s) hF h9.1 (XT h13).1 O) (λc16=>Qb Ju (λb7=>QO (vs:=[_,_,_,_]) I I I QL I .here .h4 wR<|wG<|QG ?_))
  refine YV [(1,_),(7,_)] [(27,.bool ((gB (ED (Qs s).num) n)))] wP ?_ ?_
  ·
   refine QB<|QA (QJ (vs:=[_,_,_,_]) I QL .here .h4 rfl)<|QI I (λw F hF h9=>TA hF h9.2) (λ_=>QA (QZ I I I)<|wE I ?_)
   refine Q3 (t:=20) rfl (λhb20=>?_) (λhb20=>?_)
   ·
    refine Qc I I I<|Qc I I I<|QA (Qp I I I)<|wE I<|Qc I I I<|Qc I I I<|QA (Qp I I I)<|QE ?_
    exact J3 ⟨rfl,rfl,(congrArg (λb=>some (af b)) (by unfold gB;rw[hb20];rfl)),trivial⟩ wK wj
   ·
    refine QM I I<|wE I<|QM I I<|QA (QZ I I I)<|QA (Qj I I I)<|wE I ?_
    refine Q3 (t:=24) rfl (λhb24=>?_) (λhb24=>?_)
    ·
     refine Qc I I I<|Qc I I I<|QA (Qp I I I)<|QE ?_
     exact J3 ⟨rfl,rfl,(congrArg (λb=>some (af b)) (by unfold gB;rw[hb20,hb24];rfl)),trivial⟩ wK wj
    ·
     refine QM I I<|wE I<|QM I I<|QA (QZ I I I)<|QA (Qj I I I)<|QE ?_
     exact J3 ⟨rfl,rfl,(congrArg (λb=>some (af b)) (by unfold gB;rw[hb20,hb24];rfl)),trivial⟩ wK wj
  ·
   simp only[ab,ae]
   refine QR I (λhc2=>?_) (λhc2=>?_)
   ·
    have hge0:cU s n=3:=by unfold cU;rw[if_neg (by simpa using h13),if_pos hc2]
    refine wI<|wF I<|wH I<|QY ?_
    exact JZ ((⟨none,0,0⟩:Sr)) I (wC I I) (by rw[hge0,IQ wa]) (λF h9=>by rw[hge0,IQ wa];exact gX.nil F)
   ·
    have hge0:cU s n=0:=by unfold cU;rw[if_neg (by simpa using h13),if_neg (by rw[hc2];decide)]
    have hnn:1<=n/\n<=1000:=by unfold gB at hc2;simp only[aF,decide_eq_false_iff_not]at hc2;omega
    obtain⟨m,rfl⟩:∃m:Nat,n=(m:Int):=⟨n.toNat,O⟩
    have hzl:=QEg (m:=m) O zs
    have hgl:=zD (Qs s) m
    refine QQ<|QC<|wI<|wH rfl<|QG<|wJ rfl<|wE rfl<|wG<|QU<|JU (ι:=SdJ (xh (Qs s) m)) [(1,_),(7,_),(28,_)] (λi=>[(8,i.v),(29,.int .i64 ((i.i:Nat):Int))]) (λi=>(b7,.cells (Ku c16).toArray 135 (0,0))::i.ob) (λi F=>PM F i.xs) (λi=>m - i.i) (⟨0,.slice none 0 0,[],[],ax _,.nil,rfl⟩) wQ wP wK (λ_ _ p h=>by cases h) (λi=>?_)
    simp only[ab,ae]
    have hi:=i.le
    refine wI<|QA (QZ I I I)<|wG<|QG ?_
    refine QR I (λhc2=>?_) (λhc2=>?_)
    ·
     have hlt:i.i<m:=by have:=wM hc2;omega
     have hz36:=zC (k:=i.i+1) O
     have hzm:=zC (k:=m) O
     have hz37:=Z8 (Qs s) (((i.i+1:Nat):Int):Rat)
     refine QQ<|QC<|QG<|QU<|wJ I<|wH I<|JO wv mixed y0<|QK (QD I)<|QK (QJ (vs:=[_,_,_,_]) I QL .here .h4 rfl)<|QK (QD I)<|QK (Qu I I O) ?_
     rw[show(((i.i:Nat):Int)+1)=((i.i+1:Nat):Int)from rfl]
     refine QN I (λw F hF h9=>TO (n:=((i.i+1:Nat):Int)) hF O O) (λc36=>QN I (λw F hF h9=>Wx (x:=c16) (y:=c36) (r:=Qs s) (s:=(((i.i+1:Nat):Int):Rat)) hF h9.1.1.2 h9.2 O O) (λc37=>QK (QD I)<|QN I (λw F hF h9=>TO (n:=(m:Int)) hF O O) (λc39=>QN I (λw F hF h9=>jv (x:=c37) (y:=c39) (r:=Qs s*(((i.i+1:Nat):Int):Rat)) (s:=((m:Int):Rat)) hF h9.1.2 h9.2 (by show((m:Nat):Int)≠0;omega) O O) (λc40=>?_))))
     refine Qm I (Qw XY) QL Ju I I (λb41=>?_) (λw h=>h.imp wv (λF h=>h.1.1.1.1))
     refine Y6 (bm (l₁:=[_])) ?_
     refine KG (n:=i.i) (k:=1) (sz:=4) (news:=(Ku c40)) I I XY QL Ju I uy i.hr (Src.row (off:=0) wk (λj q hq=>by rw[aN];rw[az];exact hq) rfl) O O (zF _) wK (λ_ h=>h.1.1.1.1.1) (λv42 ob42 hr42=>?_)
     refine Y6 (bm (l₂:=[_]))<|QK (QF I)<|Q6<|Qk<|QC<|QB<|QA (Qu I I O)<|wE I<|QE ?_
     exact Ql (i.next O c40 _ hr42 (QB9 hlt).symm) (by show m - (i.i+1)<m - i.i;omega) wS wK (λF h9=>⟨⟨⟨h9.1.1.1.1.1.1.1.1,trivial⟩,h9.1.1.1.1.1.1.2⟩,h9.1.1.1.1.1.2.snoc h9.1.2⟩)
    ·
     have hge:i.i=(xh (Qs s) m).length:=by have:=wN hc2;have:=i.le;omega
     have hzx:∀p∈i.xs,JL p.2<=100000000:=λp hp=>aH (hzl _ (by have e:=i.hx;rw[hge,aA]at e;rw[<-e];exact List.mem_map_of_mem hp)) wa
     have hxe:i.xs.map (·.2)=(xh (Qs s) m):=by have e:=i.hx;rw[hge,aA]at e;exact e
     have hxl2:=i.len
     have hany:=zH hxe
     refine Qz ?_
     repeat (first | refine QW ?_ | refine QP wc ?_)
     refine QX<|QC<|QG<|QG<|QB ?_
     have hxl:=i.len
     obtain⟨⟨rq,rn,rc⟩,hv2,hrn,hrc,hfix⟩:=Qx.fix (w0:=w) (F0:=F) (bs1:=[_]) (G:=_) i.hr
     dsimp only at hrn hrc hfix
     subst hrn
     refine YM hfix ?_
     rw[hv2]
     dsimp only[Sr.v]
     refine wE I<|QI I (λw F hF h9=>qd (f:=93) (c1:=[]) (c2:=[]) (p:=λe:Fr×Rat=>Jj e.2) (G0:=λF=>JC F/\PM F i.xs) hF (λF F' hle h=>⟨h.1.le hle,h.2.le hle⟩) ⟨h9.1.1.1.1,h9.1.2⟩ h9.2 hxl2 O (λe he w F hF hG=>Da hF hG.1 (hG.2 e he) (hzx e he))) (λ_=>QE<|QC ?_)
     refine QR I (λhc2=>?_) (λhc2=>?_)
     ·
      have hL:(xh (Qs s) m).any Jj=true:=by rw[<-hany];exact hc2
      refine wI<|wF I<|wH I<|QY ?_
      exact JZ ((⟨none,0,0⟩:Sr)) I (wC I I) (by rw[hge0,aw,S8,if_pos hL]) (λF h9=>by rw[hge0,aw,S8,if_pos hL,if_pos hL];exact gX.nil F)
     ·
      have hL:(xh (Qs s) m).any Jj=false:=by rw[<-hany];exact hc2
      refine QQ<|QC<|wJ I<|QI I (λw F hF h9=>AF hF h9.1.1.1.1.1 h9.1.2 h9.1.1.2 hxl2 O hzx) (λc47=>wF I<|wH I<|QY ?_)
      exact JZ (c47) rfl (wC I I) (by rw[hge0,aw,S8,hL]<;>rfl) (λF h9=>by rw[hge0,aw,S8,hL];show gX F c47 (xh (Qs s) m);exact⟨by rw[<-pA hxe];exact h9.2.1,by rw[h9.2.2.1];exact hge,h9.2.2.2⟩)
theorem eqI8(a:Int):xI .eql (.int .i64 a) (.int .i64 a)=some (.bool true):=by simp[xI]
theorem QDu(hF:Fits F w)(h:Jw s=0):Qe Tryz.prog 19 [tx s] w F (.int .i64 (ED (Qs s).num)):=by
 have h1:=QDv (x:=Qs s) hF
 rw[<-(XT h).1]at h1;exact h1
theorem QDy{y:Rat}(hF:Fits F w)(h:Jw s=0)(hy:JL y<=100000):Qe Tryz.prog 20 [tx s,tx (Je y)] w F (tx (Je (Qs s*y))):=by
 have h1:=QGE (x:=Qs s) (y:=y) hF (by have:=Yy h;omega) hy
 rw[<-(XT h).1]at h1;exact h1
structure WnJ(xs:List Rat) where
 i:Nat
 v:Value
 ob:List (Nat×Obj)
 le:i<=xs.length
 hr:Qx 22 1 v i (((xs.take i).map Je).map tx) ob
def WnJ.next{xs:List Rat}(s:WnJ xs)(h:s.i<xs.length){v:Value}{ob:List (Nat×Obj)}{x:Rat}(hx:x=el xs s.i)(hr:Qx 22 1 v (s.i+1) (((xs.take s.i).map Je).map tx++[tx (Je x)]) ob):WnJ xs:=⟨s.i+1,v,ob,h,by rw[XN h,bL,bL,<-hx];exact hr⟩
theorem QFf(a:Rat)(k m:Nat):a*ag ((k+1:Nat):Int) (m:Int)=a*(((k+1:Nat):Int):Rat) / (((m:Nat):Int):Rat):=by rw[Rat.divInt_eq_div,bC,bC,Rat.mul_assoc]
theorem QGa(h:cU s n=0):Jw s=0/\gB (ED (Qs s).num) n=false:=by
 unfold cU at h
 by_cases g:Jw s=0
 ·refine⟨g,?_⟩
  rw[if_neg (by simpa using g)]at h
  cases e:gB (ED (Qs s).num) n with
  |false=>rfl
  |true=>rw[if_pos e]at h;cases h
 ·rw[if_pos g]at h;exact absurd h g
theorem QDI(h:Jw s=0)(hl:s.length<=14)(hm:m<=1000):(xh (Qs s) m).any Jj=false:=by
 cases e:(xh (Qs s) m).any Jj with
 |false=>rfl
 |true =>
  obtain⟨x,hx,k⟩:=List.any_eq_true.1 e
  have h1:=QEg hm (QDo h (k:=14) wa hl) x hx
  rw[QAR h1 wa]at k;cases k
theorem QFe(hF:Fits F w)(hGl:JC F)(hs:s.length<=9223372036854775807)(hn : -9223372036854775808<=n/\n<=9223372036854775807):Qe Tryz.prog 3 [tx s,.int .i64 n] w F (.bool true):=by
 refine QS.intro (G:=λF=>JC F) Tryz.func3 rfl wc rfl rfl hF (λF' hF'=>hGl.le hF')<|wI<|wH rfl<|QG ?_
 refine YV [(0,_),(1,_)] [(20,.bool (([s].any (λs=>decide (s.length>14))||(decide (n>30)&&decide (n<=1000)))))] wP ?_ ?_
 ·
  refine QB<|wE I<|Qa I (Qw Yj) XA Lz I I (λb11=>QI I (λw F hF h9=>QFd (l:=[s]) hF (Qy.of (n:=1) (sz:=1) (cs:=[s].map tx) h9.2 I) rfl wa) (λ_=>wE I ?_))
  refine Q3 (t:=13) rfl (λhb13=>?_) (λhb13=>?_)
  ·
   refine Qc I I I<|Qc I I I<|Qc I I I<|J2 I I<|J2 I I<|Qc I I I<|QA (Qp I I I)<|QE ?_
   exact J3 ⟨rfl,rfl,(congrArg (λb=>some (af b)) (by first | (rw[hb13,hb16];rfl) | (rw[hb13];rfl))),trivial⟩ wK (λ_ h=>h.1.1)
  ·
   refine QM I I<|wE I<|QM I I<|QA (QZ I I I)<|QM I I<|wE I ?_
   refine Q3 (t:=16) rfl (λhb16=>?_) (λhb16=>?_)
   ·
    refine QM I I<|wE I<|QM I I<|QA (QZ I I I)<|QM I I<|QA (Qp I I I)<|QA (Qj I I I)<|QE ?_
    exact J3 ⟨rfl,rfl,(congrArg (λb=>some (af b)) (by first | (rw[hb13,hb16];rfl) | (rw[hb13];rfl))),trivial⟩ wK (λ_ h=>h.1.1)
   ·
    refine Qc I I I<|Qc I I I<|QM I I<|QA (Qj I I I)<|QA (Qj I I I)<|QE ?_
    exact J3 ⟨rfl,rfl,(congrArg (λb=>some (af b)) (by first | (rw[hb13,hb16];rfl) | (rw[hb13];rfl))),trivial⟩ wK (λ_ h=>h.1.1)
 ·
  simp only[ab,ae]
  refine QR I (λhc2=>?_) (λhc2=>?_)
  ·
   refine wI<|QI I (λw F hF hGl=>zG hF hGl) (λ_=>wH I<|QY ?_)
   exact wL I I (rfl) wh
  ·
   have hsl:s.length<=14/\(n<=30\/1000<n):=by
    rw[aF]at hc2
    refine⟨by have:=hc2.1;simp at this;omega,?_⟩
    have:=hc2.2
    simp only[Bool.and_eq_false_iff,decide_eq_false_iff_not]at this;omega
   refine QQ<|QC<|wJ I<|wE I<|QI I (λw F hF hGl=>QFg hF hGl O) (λc25=>wE I<|QA (QT I I)<|QA (QT I I)<|wF I<|wH I<|wJ I<|QI I (λw F hF h9=>QD4 hF O) (λ_=>wF I<|QE<|QC ?_))
   refine YV [(0,_),(1,_),(5,_),(6,_)] [(7,.int .i64 (cU s n))] wR ?_ ?_
   ·
    refine YV [(0,_),(1,_),(5,_),(6,_),(7,_)] [(44,.bool (((Jw s==0)&&gB (ED (Qs s).num) n)))] wS ?_ ?_
    ·
     refine QB<|wE I<|QA (QZ I I I)<|wE I ?_
     refine Q3 (t:=32) rfl (λhb32=>?_) (λhb32=>?_)
     ·
      refine QM I I<|wE I<|QM I I<|QI I (λw F hF h9=>QDu hF (eq_of_beq hb32)) (λ_=>QM I I<|QA (QZ I I I)<|QM I I<|wE I ?_)
      refine Q3 (t:=36) rfl (λhb36=>?_) (λhb36=>?_)
      ·
       refine Qc I I I<|Qc I I I<|QM I I<|QA (Qp I I I)<|QM I I<|wE I<|Qc I I I<|Qc I I I<|QM I I<|QA (Qp I I I)<|QA (Qp I I I)<|QE ?_
       exact J3 ⟨rfl,rfl,rfl,rfl,rfl,(congrArg (λb=>some (af b)) (by unfold gB;first | (rw[hb32,hb36,hb40];rfl) | (rw[hb32,hb36];rfl) | (rw[hb32];rfl))),trivial⟩ wK wj
      ·
       refine QM I I<|wE I<|QM I I<|QA (QZ I I I)<|QM I I<|QA (Qj I I I)<|QM I I<|wE I ?_
       refine Q3 (t:=40) rfl (λhb40=>?_) (λhb40=>?_)
       ·
        refine Qc I I I<|Qc I I I<|QM I I<|QA (Qp I I I)<|QA (Qp I I I)<|QE ?_
        exact J3 ⟨rfl,rfl,rfl,rfl,rfl,(congrArg (λb=>some (af b)) (by unfold gB;first | (rw[hb32,hb36,hb40];rfl) | (rw[hb32,hb36];rfl) | (rw[hb32];rfl))),trivial⟩ wK wj
       ·
        refine QM I I<|wE I<|QM I I<|QA (QZ I I I)<|QM I I<|QA (Qj I I I)<|QA (Qp I I I)<|QE ?_
        exact J3 ⟨rfl,rfl,rfl,rfl,rfl,(congrArg (λb=>some (af b)) (by unfold gB;first | (rw[hb32,hb36,hb40];rfl) | (rw[hb32,hb36];rfl) | (rw[hb32];rfl))),trivial⟩ wK wj
     ·
      refine Qc I I I<|Qc I I I<|Qc I I I<|Qc I I I<|J2 I I<|J2 I I<|Qc I I I<|Qc I I I<|J2 I I<|J2 I I<|Qc I I I<|QA (Qj I I I)<|QE ?_
      exact J3 ⟨rfl,rfl,rfl,rfl,rfl,(congrArg (λb=>some (af b)) (by unfold gB;first | (rw[hb32,hb36,hb40];rfl) | (rw[hb32,hb36];rfl) | (rw[hb32];rfl))),trivial⟩ wK wi
    ·
     simp only[ab,ae]
     refine QR I (λhc2=>?_) (λhc2=>?_)
     ·
      refine QB<|wF I<|QE ?_
      exact J3 ⟨rfl,rfl,rfl,rfl,(congrArg (λb=>some (ah .i64 b)) (by unfold cU;rw[Bool.and_eq_true,beq_iff_eq]at hc2;rw[if_neg (by simpa using hc2.1),if_pos hc2.2])),trivial⟩ wK wi
     ·
      refine QQ ?_
      exact J3 ⟨rfl,rfl,rfl,rfl,(congrArg (λb=>some (ah .i64 b)) (by unfold cU;by_cases g:Jw s=0;rw[g]at hc2 ⊢;rw[if_neg wa,if_neg (by simpa using hc2)];rw[if_pos g])),trivial⟩ wK wi
   ·
    simp only[ab,ae]
    refine QG<|wJ I<|QA (QZ I I I)<|QE<|QC ?_
    refine QR I (λhc2=>?_) (λhc2=>?_)
    ·
     have h46:cU s n≠0:=bne_iff_ne.1 hc2
     refine XQ _ (λw F hF ⟨⟨hGl,h25⟩,_⟩=>(show gX F c25 [] by rw[IQ h46]at h25;exact h25).2.1) (λn25=>?_)
     have n25:c25.n=0:=n25
     refine wJ I<|QA (Qh I Yj) ?_
     rw[n25]
     refine QA (QZ (v:=.bool true) rfl rfl rfl)<|wE I<|QM I I<|wE I<|QM I I<|wE I<|QM I I ?_
     rw[IQ h46]
     refine QA (QZ (v:=.bool true) rfl rfl (eqI8 _))<|QA (Qp I I I)<|wE I<|QM I I<|QI I (λw F hF h9=>zG hF h9.1.1) (λ_=>QA (Qp I I I)<|wH I<|QY ?_)
     exact wL I I (rfl) wh
    ·
     have h46:cU s n=0:=bne_eq_false_iff_eq.1 hc2
     have hok:=QGa h46
     have hnn:1<=n/\n<=30:=by have:=hok.2;unfold gB at this;simp only[aF,decide_eq_false_iff_not]at this;omega
     obtain⟨m,rfl⟩:∃m:Nat,n=(m:Int):=⟨n.toNat,O⟩
     have hgl:=zD (Qs s) m
     have hany:=QDI (m:=m) hok.1 hsl.1 O
     have e1:dQ (cU s m) (xh (Qs s) (m:Int).toNat)=(0,xh (Qs s) m):=by rw[h46,aw,S8,hany];rfl
     have e0:(dQ (cU s m) (xh (Qs s) (m:Int).toNat)).1=0:=by rw[e1]
     have hnx:∀ {F:Gs},gX F c25 (dQ (cU s m) (xh (Qs s) (m:Int).toNat)).2->gX F c25 (xh (Qs s) m):=λh=>by rw[e1]at h;exact h
     refine QQ<|QC<|wI<|wH I<|QG<|wI<|wH I<|QU<|JU (ι:=WnJ (xh (Qs s) m)) [(0,_),(1,_),(5,_),(6,_)] (λi=>[(8,i.v),(9,.int .i64 (((i.i:Nat):Int)+1))]) (λi=>i.ob) (λi F=>True) (λi=>m - i.i) (⟨0,.slice none 0 0,[],ax _,.nil⟩) wR wP wK wh (λi=>?_)
     simp only[ab,ae]
     have hi:=i.le
     refine QG<|wJ I<|wE I<|QA (QZ I I I)<|QE<|QC ?_
     refine QR I (λhc2=>?_) (λhc2=>?_)
     ·
      have hlt:i.i<m:=by have:=wM hc2;omega
      refine QQ<|QC<|QG<|QU<|QB<|wE I<|wE I<|wE I<|wE I ?_
      rw[show(((i.i:Nat):Int)+1)=((i.i+1:Nat):Int)from rfl]
      refine QI I (λw F hF h9=>QDx (num:=((i.i+1:Nat):Int)) (den:=(m:Int)) hF O O O) (λ_=>QI I (λw F hF h9=>QDy (y:=ag ((i.i+1:Nat):Int) (m:Int)) hF hok.1 (by have h1:=VJ (a:=((i.i+1:Nat):Int)) (b:=(m:Int)) O;have h2:sz ((i.i+1:Nat):Int)<=40:=(XL _ 40).2 O;have h3:sz ((m:Nat):Int)<=40:=(XL _ 40).2 O;omega)) (λ_=>Qa I (Qw Yj) XA Lz I I (λb69=>?_)))
      refine Yu (bs1:=[]) (ob:=i.ob) (n:=i.i) (k:=1) (sz:=1) (news:=[tx (Je (Qs s*ag ((i.i+1:Nat):Int) (m:Int)))]) I I Yj XA Lz I QCn i.hr (Src.row (off:=0) wk (λj q hq=>by rw[aN];rw[az];exact hq) rfl) O O (λv hv=>by rw[List.mem_singleton.1 hv];rfl) (λv70 ob70 hr70=>?_)
      refine wF I<|QE<|Qk<|QC<|QB<|wE I<|QA (Qu I I O)<|wF I<|QE ?_
      exact Ql (i.next O (x:=Qs s*ag ((i.i+1:Nat):Int) (m:Int)) (by rw[QFf,QB9 hlt]) hr70) (by show m - (i.i+1)<m - i.i;omega) wT wK (λF h=>⟨h.1.1.1.1,trivial⟩)
     ·
      have hge:i.i=(xh (Qs s) m).length:=by have:=wN hc2;have:=i.le;omega
      have hrw:∀ {F:Gs} {q:Option Addr},Qy F q i.i 1 (((((xh (Qs s) m).take i.i).map Je).map tx))->Qy F q i.i 1 (((xh (Qs s) m).map Je).map tx):=λh=>by rw[hge,aA]at h;rw[hge];exact h
      refine Qz ?_
      repeat (first | refine QW ?_ | refine QP wc ?_)
      refine QX<|QC<|QG<|QB ?_
      obtain⟨⟨rq,rn,rc⟩,hv2,hrn,hrc,hfix⟩:=Qx.fix (w0:=w) (F0:=F) (bs1:=[]) (G:=_) i.hr
      dsimp only at hrn hrc hfix
      subst hrn
      refine YM hfix ?_
      rw[hv2]
      dsimp only[Sr.v]
      refine wE I ?_
      rw[e0]
      refine QA (QZ (v:=.bool true) rfl rfl rfl)<|wE I<|QM I I<|wE I<|QM I I<|wE I<|QM I I<|QI I (λw F hF h9=>RF (ra:=c25) (rb:=⟨rq,i.i,rc⟩) (la:=(xh (Qs s) m).map Je) (lb:=(xh (Qs s) m).map Je) hF (hnx h9.1.1.1.2).1 (hrw h9.2) (by rw[bN];exact(hnx h9.1.1.1.2).2.1.symm) (by rw[bN];exact hge.symm) (by rw[(hnx h9.1.1.1.2).2.1,hgl];omega) rfl) (λ_=>QA (Qp I I I)<|wE I<|QM I I<|QI I (λw F hF h9=>zG hF h9.1.1.1.1.1) (λ_=>QA (Qp I I I)<|wH I<|QY ?_))
      exact wL I I (rfl) wh
end Go.Proofs.YtjcphjpkimmmjaaGreatDoor
